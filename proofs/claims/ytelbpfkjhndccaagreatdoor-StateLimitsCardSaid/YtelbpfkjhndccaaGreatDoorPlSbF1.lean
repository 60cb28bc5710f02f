/- Functions of the program, as partial functions in Lean, with proofs. -/
import Derived.Test.YtelbpfkjhndccaaGreatDoorPlSbB
namespace Go.PL
open Go Go.RowKit Go.Proofs
set_option maxRecDepth 100000
set_option linter.all false
set_option maxHeartbeats 4000000
attribute [local irreducible] Ai B4 BL
def CL (b3_7:AJ):Option (AJ):=
 some b3_7
def Di (a0:AJ) (b3_5:AJ):Option (AJ):=
 CL ({b3_5 with Filter:=a0.Filter})
def C2 (b3_11:AJ):Option (AJ):=
 CL b3_11
def Dj (a0:AJ) (b3_5:AJ):Option (AJ):=
 (if(a0.On==1)=true then
  (if(a0.Who==0)=true then
   C2 ({{b3_5 with Who:=a0.Who}with Filter:=a0.Filter})
  else
   C2 ({b3_5 with Who:=a0.Who}))
 else
  (if(a0.On==2)=true then
   Di a0 b3_5
  else
   (if(a0.On==8)=true then
    Di a0 b3_5
   else
    CL ({b3_5 with Who:=a0.Who}))))
def Dk (a0:AJ) (b3_3:AJ):Option (AJ):=
 (if(a0.Do==5)=true then
  Dj a0 ({b3_3 with Zone:=a0.Zone})
 else
  Dj a0 b3_3)
def Dl (a0:AJ) (b3_1:AJ):Option (AJ):=
 (if(a0.Do==7)=true then
  Dk a0 ({b3_1 with Counter:=a0.Counter})
 else
  Dk a0 b3_1)
def Fn (a0:AJ):Option (AJ):=
 (some (if(a0.Do==2)=true then true else a0.Do==4)).bind fun b18=>
 (some (if b18=true then true else a0.Do==7)).bind fun b19=>
 (if b19=true then
  Dl a0 (⟨a0.On,0,(⟨0,0,0,0,0,0,0,[],0,0,(⟨0,0⟩:Ae),(⟨0,0⟩:Ae),(⟨0,0⟩:Ae)⟩:Af),a0.Do,a0.N,0,0⟩:AJ)
 else
  Dl a0 (⟨a0.On,0,(⟨0,0,0,0,0,0,0,[],0,0,(⟨0,0⟩:Ae),(⟨0,0⟩:Ae),(⟨0,0⟩:Ae)⟩:Af),a0.Do,0,0,0⟩:AJ))
def QY (a0:AJ) (r:AJ):Prop:=Ah Tryz.prog I0 129 [vA Bk a0] (· =vA Bk r)
theorem P4 {a0:AJ} {r:AJ} (h:Fn a0=some r):QY a0 r:=by
 refine Ah.bo Ag Tryz.func129 rfl Tryz.ntmps129 [.cell 2 49] fun _ _ _ _=>?_
 unfold Fn at h
 refine Rg [.a,.a] (sl 61 [(1,vP [1] (0)),(2,vP [2] (0))] [bx [2] [Aa 0,Aa 0,Aa 0,Aa 0,Aa 0,Aa 0,Aa 0,Aa 0,Aa 0,.str ([]),Aa 0,Aa 0,Aa 0,Aa 0,Aa 0,Aa 0,Aa 0,Aa 0,Aa 0,Aa 0,Aa 0,Aa 0],bx [1] (Bk a0)]) (aN)<|Gg (nA 7) (uo [] [(3,vP [3] (0))] [.e (bx [3] [Aa a0.On,Aa 0,Aa 0,Aa 0,Aa 0,Aa 0,Aa 0,Aa 0,Aa 0,.str ([]),Aa 0,Aa 0,Aa 0,Aa 0,Aa 0,Aa 0,Aa 0,Aa 0,Aa a0.Do,Aa 0,Aa 0,Aa 0]),.k 0,.k 1]) (aC (And.intro (show True∧(True∧True)from⟨trivial,⟨trivial,trivial⟩⟩) mW)<|aN)<|Gj (X:=AJ) (fun v=>(uo [] [] [.e (bx [3] (Bk v)),.k 1,.k 2])) (fun v=>Dl a0 v=some r) ?_ ?_
 ·obtain⟨t0,i1,d1,j1,h⟩:=JX h
  refine Gg [.a,.a,.a,.a,.a,.a,.a,(.v (vB t0)),.a,.a,.a,.a,(.v (vB d1))] (u [] [(21,vB d1)]) (aG ((a0.Do==2)==false)<|aG ((a0.Do==2)==false)<|aF (a0.Do==2)<|aB i1<|aG (t0==false)<|aG (t0==false)<|aF t0<|aB j1<|aN)<|iC h (fun h=>?_) (fun h=>?_)
  ·refine Ge (nA 4) (uo [] [(22,vP [1] (19)),(23,vI a0.N),(24,vP [3] (19))] [.s 0 [(19,Aa a0.N)],.k 1,.k 2]) (aN)<|Tn ⟨(⟨a0.On,0,(⟨0,0,0,0,0,0,0,[],0,0,(⟨0,0⟩:Ae),(⟨0,0⟩:Ae),(⟨0,0⟩:Ae)⟩:Af),a0.Do,a0.N,0,0⟩:AJ),h,wT⟩
  refine hK<|Tn ⟨(⟨a0.On,0,(⟨0,0,0,0,0,0,0,[],0,0,(⟨0,0⟩:Ae),(⟨0,0⟩:Ae),(⟨0,0⟩:Ae)⟩:Af),a0.Do,0,0,0⟩:AJ),h,wT⟩
 rintro n0 k0
 replace k0:Dl a0 n0=some r:=k0
 unfold Dl at k0
 refine Gj (X:=AJ) (fun v=>(uo [] [] [.e (bx [3] (Bk v)),.k 1,.k 2])) (fun v=>Dk a0 v=some r) ?_ ?_
 ·refine Gg (nA 3) (u [] [(27,vB (a0.Do==7))]) (aN)<|iC k0 (fun k0=>?_) (fun k0=>?_)
  ·refine Ge (nA 4) (uo [] [(28,vP [1] (21)),(29,vI a0.Counter),(30,vP [3] (21))] [.e (bx [3] (Bk ({n0 with Counter:=a0.Counter}))),.k 1,.k 2]) (aN)<|Tn ⟨({n0 with Counter:=a0.Counter}),k0,wT⟩
  refine hK<|Tn ⟨n0,k0,wT⟩
 rintro o0 m0
 replace m0:Dk a0 o0=some r:=m0
 unfold Dk at m0
 refine Gj (X:=AJ) (fun v=>(uo [] [] [.e (bx [3] (Bk v)),.k 1,.k 2])) (fun v=>Dj a0 v=some r) ?_ ?_
 ·refine Gg (nA 3) (u [] [(33,vB (a0.Do==5))]) (aN)<|iC m0 (fun m0=>?_) (fun m0=>?_)
  ·refine Ge (nA 4) (uo [] [(34,vP [1] (20)),(35,vI a0.Zone),(36,vP [3] (20))] [.e (bx [3] (Bk ({o0 with Zone:=a0.Zone}))),.k 1,.k 2]) (aN)<|Tn ⟨({o0 with Zone:=a0.Zone}),m0,wT⟩
  refine hK<|Tn ⟨o0,m0,wT⟩
 rintro j0 i0
 replace i0:Dj a0 j0=some r:=i0
 unfold Dj at i0
 refine Gj (X:=AJ) (fun v=>(uo [1] [] [.e (bx [3] (Bk v)),.k 1])) (fun v=>CL v=some r) ?_ ?_
 ·refine Gg [.a,.a] (u [] [(38,vI a0.On)]) (aN)<|hB<|hS<|hB<|Gj (X:=Unit) (fun v=>(u [38] [])) (fun v=>Di a0 j0=some r) ?_ ?_
  ·refine hB<|hB<|hS<|hB<|hS<|hS<|Gg [.a,.a] (u [] [(39,vB (a0.On==1))]) (aN)<|iC i0 (fun i0=>?_) (fun i0=>?_)
   ·refine hE<|Te<|Te<|qX<|Tn<|Gj (X:=AJ) (fun v=>(uo [1,38,39] [] [.e (bx [3] (Bk v)),.k 1])) (fun v=>C2 v=some r) ?_ ?_
    ·refine Gg (nA 4) (uo [38,39] [] [.e (bx [3] (Bk ({j0 with Who:=a0.Who}))),.k 1,.k 2]) (aN)<|Rg (nA 3) (sl 61 [(1,vP [1] (0)),(2,vP [2] (0)),(3,vP [3] (0)),(50,vB (a0.Who==0))] [bx [3] (Bk ({j0 with Who:=a0.Who})),bx [2] [Aa 0,Aa 0,Aa 0,Aa 0,Aa 0,Aa 0,Aa 0,Aa 0,Aa 0,.str ([]),Aa 0,Aa 0,Aa 0,Aa 0,Aa 0,Aa 0,Aa 0,Aa 0,Aa 0,Aa 0,Aa 0,Aa 0],bx [1] (Bk a0)]) (aN)<|iC i0 (fun i0=>?_) (fun i0=>?_)
     ·refine Ge (nA 4) (uo [] [(51,vP [1] (2)),(52,vA A7 a0.Filter),(53,vP [3] (2))] [.e (bx [3] (Bk ({{j0 with Who:=a0.Who}with Filter:=a0.Filter}))),.k 1,.k 2]) (aN)<|Tn ⟨({{j0 with Who:=a0.Who}with Filter:=a0.Filter}),i0,wT⟩
     refine hK<|Tn ⟨({j0 with Who:=a0.Who}),i0,wT⟩
    rintro x0 q0
    replace q0:C2 x0=some r:=q0
    unfold C2 at q0
    refine hE<|qY<|qY<|Te<|qY<|Te<|qX<|Tn ⟨x0,q0,wT⟩
   refine hK<|Tn<|hS<|Gg [.a,.a] (u [39] [(41,vB (a0.On==2))]) (aN)<|iC i0 (fun i0=>?_) (fun i0=>?_)
   ·refine hE<|Te<|Te<|qY<|Te<|qX<|qN<|Tn ⟨(),i0,wT⟩
   refine hK<|Tn<|Rg [.a,.a] (sl 61 [(1,vP [1] (0)),(2,vP [2] (0)),(3,vP [3] (0)),(43,vB (a0.On==8))] [bx [3] (Bk j0),bx [2] [Aa 0,Aa 0,Aa 0,Aa 0,Aa 0,Aa 0,Aa 0,Aa 0,Aa 0,.str ([]),Aa 0,Aa 0,Aa 0,Aa 0,Aa 0,Aa 0,Aa 0,Aa 0,Aa 0,Aa 0,Aa 0,Aa 0],bx [1] (Bk a0)]) (aN)<|iC i0 (fun i0=>?_) (fun i0=>?_)
   ·refine hE<|Te<|qY<|Te<|qY<|qX<|Tn ⟨(),i0,wT⟩
   refine hK<|Tn<|hE<|qY<|Te<|qY<|qY<|Te<|qX<|Tn<|Gg (nA 4) (uo [1,43] [] [.e (bx [3] (Bk ({j0 with Who:=a0.Who}))),.k 1]) (aN)<|hE<|qX<|Tn ⟨({j0 with Who:=a0.Who}),i0,wT⟩
  rintro _ z0
  replace z0:Di a0 j0=some r:=z0
  unfold Di at z0
  refine Gg (nA 4) (uo [1] [] [.e (bx [3] (Bk ({j0 with Filter:=a0.Filter}))),.k 1]) (aN)<|hE<|qY<|Te<|qX<|Tn ⟨({j0 with Filter:=a0.Filter}),z0,wT⟩
 rintro p0 y0
 replace y0:CL p0=some r:=y0
 unfold CL at y0
 exact Gg [.a,.a] (uo [3] [] [.e (bx [2] (Bk p0))]) (aN)<|hR<|bE (vA Bk p0) (.agg (Bk p0)) (congrArg (vA Bk) (sI y0))
def CA (b3_1:Bz):Option (Bz):=
 some b3_1
def Ho (b3_3:Bz):Option (Bz):=
 CA ({b3_3 with ref:=true})
def Hp (b3_5:Bz):Option (Bz):=
 Ho ({b3_5 with amount:=true})
def CW (a0:Int) (vt17_13:Bool):Option (Bz):=
 (if vt17_13=true then
  Ho (⟨false,false,false,false,false,false,false,false⟩:Bz)
 else
  (if(a0==3)=true then
   CA (⟨true,false,false,true,false,false,false,false⟩:Bz)
  else
   (if(a0==12)=true then
    CA (⟨true,true,false,false,true,false,false,false⟩:Bz)
   else
    (if(a0==13)=true then
     CA (⟨true,false,false,false,false,false,false,true⟩:Bz)
    else
     (if(a0==14)=true then
      CA (⟨false,false,false,false,false,false,true,false⟩:Bz)
     else
      (if(a0==18)=true then
       CA (⟨true,true,false,false,false,true,false,false⟩:Bz)
      else
       (if(a0==20)=true then
        CA (⟨false,true,false,false,false,false,false,false⟩:Bz)
       else
        (if(a0==21)=true then
         CA (⟨false,false,false,false,false,true,false,false⟩:Bz)
        else
         CA (⟨false,false,false,false,false,false,false,false⟩:Bz)))))))))
def Cx (a0:Int) (vt8_10:Bool):Option (Bz):=
 (if vt8_10=true then
  Hp (⟨false,false,false,false,false,false,false,false⟩:Bz)
 else
  (if(a0==2)=true then
   CW a0 (a0==2)
  else
   (if(a0==8)=true then
    CW a0 (a0==8)
   else
    (if(a0==9)=true then
     CW a0 (a0==9)
    else
     (if(a0==15)=true then
      CW a0 (a0==15)
     else
      (if(a0==16)=true then
       CW a0 (a0==16)
      else
       (if(a0==17)=true then
        CW a0 (a0==17)
       else
        CW a0 (a0==25))))))))
def Hq (a0:Int) (vt5_7:Bool):Option (Bz):=
 (if vt5_7=true then
  Hp (⟨false,false,true,false,false,false,false,false⟩:Bz)
 else
  (if(a0==1)=true then
   Cx a0 (a0==1)
  else
   (if(a0==4)=true then
    Cx a0 (a0==4)
   else
    (if(a0==5)=true then
     Cx a0 (a0==5)
    else
     (if(a0==6)=true then
      Cx a0 (a0==6)
     else
      (if(a0==7)=true then
       Cx a0 (a0==7)
      else
       (if(a0==19)=true then
        Cx a0 (a0==19)
       else
        (if(a0==22)=true then
         Cx a0 (a0==22)
        else
         Cx a0 (a0==26)))))))))
def Jg (a0:Int):Option (Bz):=
 (if(a0==10)=true then
  Hq a0 (a0==10)
 else
  Hq a0 (a0==11))
def YZ (a0:Int) (r:Bz):Prop:=Ah Tryz.prog I0 134 [vI a0] (· =vA Ef r)
theorem Xs {a0:Int} {r:Bz} (h:Jg a0=some r):YZ a0 r:=by
 refine Ah.bo Ag Tryz.func134 rfl Tryz.ntmps134 [.cell 2 172] fun _ _ _ _=>?_
 unfold Jg at h
 refine Gg [.a] (uo [] [(2,vP [2] (0))] [.e (bx [2] [.bool false,.bool false,.bool false,.bool false,.bool false,.bool false,.bool false,.bool false])]) (aN)<|Gg [.a] (uo [] [(3,vP [3] (0))] [.e (bx [3] [.bool false,.bool false,.bool false,.bool false,.bool false,.bool false,.bool false,.bool false]),.k 0]) (aN)<|Gj (X:=Bz) (fun v=>(uo [0] [] [.e (bx [3] (Ef v)),.k 1])) (fun v=>CA v=some r) ?_ ?_
 ·refine Gg [.a] (u [0] [(4,vI a0)]) (aN)<|hB<|hS<|hB<|hS<|hB<|hS<|hB<|hS<|hB<|hS<|hB<|hS<|hB<|hS<|hB<|Gj (X:=Bz) (fun v=>(uo [4] [] [.e (bx [3] (Ef v)),.k 1])) (fun v=>Ho v=some r) ?_ ?_
  ·refine hB<|Gj (X:=Bz) (fun v=>(uo [4] [] [.e (bx [3] (Ef v)),.k 1])) (fun v=>Hp v=some r) ?_ ?_
   ·refine hB<|hS<|hB<|hS<|hS<|Gj (X:=Bool) (fun v=>(u [] [(5,vB v)])) (fun v=>Hq a0 v=some r) ?_ ?_
    ·refine Gg [.a,.a] (u [] [(5,vB (a0==10))]) (aN)<|iC h (fun h=>?_) (fun h=>?_)
     ·refine hK<|Tn ⟨(a0==10),h,wT⟩
     refine Ge [.a,.a] (u [] [(5,vB (a0==11)),(7,vB (a0==11))]) (aN)<|Tn ⟨(a0==11),h,wT⟩
    rintro z0 k0
    replace k0:Hq a0 z0=some r:=k0
    unfold Hq at k0
    refine iC k0 (fun k0=>?_) (fun k0=>?_)
    ·refine hE<|Te<|Te<|qX<|Tn<|Ge [.a,.a] (uo [] [(39,vP [3] (2))] [.s 0 [(2,.bool true)],.k 1]) (aN)<|qN<|Tn ⟨(⟨false,false,true,false,false,false,false,false⟩:Bz),k0,wT⟩
    refine hK<|Tn<|hS<|Gj (X:=Bool) (fun v=>(u [5] [(8,vB v)])) (fun v=>Cx a0 v=some r) ?_ ?_
    ·refine Gg [.a,.a] (u [5] [(8,vB (a0==1))]) (aN)<|iC k0 (fun k0=>?_) (fun k0=>?_)
     ·refine hK<|Tn ⟨(a0==1),k0,wT⟩
     refine Gg [.a,.a] (u [] [(8,vB (a0==4))]) (aN)<|iC k0 (fun k0=>?_) (fun k0=>?_)
     ·refine hK<|Tn ⟨(a0==4),k0,wT⟩
     refine Gg [.a,.a] (u [] [(8,vB (a0==5))]) (aN)<|iC k0 (fun k0=>?_) (fun k0=>?_)
     ·refine hK<|Tn ⟨(a0==5),k0,wT⟩
     refine Rg [.a,.a] (sl 56 [(2,vP [2] (0)),(3,vP [3] (0)),(4,vI a0),(8,vB (a0==6))] [bx [3] [.bool false,.bool false,.bool false,.bool false,.bool false,.bool false,.bool false,.bool false],bx [2] [.bool false,.bool false,.bool false,.bool false,.bool false,.bool false,.bool false,.bool false]]) (aN)<|iC k0 (fun k0=>?_) (fun k0=>?_)
     ·refine hK<|Tn ⟨(a0==6),k0,wT⟩
     refine Gg [.a,.a] (u [] [(8,vB (a0==7))]) (aN)<|iC k0 (fun k0=>?_) (fun k0=>?_)
     ·refine hK<|Tn ⟨(a0==7),k0,wT⟩
     refine Gg [.a,.a] (u [] [(8,vB (a0==19))]) (aN)<|iC k0 (fun k0=>?_) (fun k0=>?_)
     ·refine hK<|Tn ⟨(a0==19),k0,wT⟩
     refine Gg [.a,.a] (u [] [(8,vB (a0==22))]) (aN)<|iC k0 (fun k0=>?_) (fun k0=>?_)
     ·refine hK<|Tn ⟨(a0==22),k0,wT⟩
     refine Ge [.a,.a] (u [] [(8,vB (a0==26)),(16,vB (a0==26))]) (aN)<|Tn ⟨(a0==26),k0,wT⟩
    rintro y0 j0
    replace j0:Cx a0 y0=some r:=j0
    unfold Cx at j0
    refine iC j0 (fun j0=>?_) (fun j0=>?_)
    ·refine hE<|Te<|Te<|qY<|Te<|qX<|Tn ⟨(⟨false,false,false,false,false,false,false,false⟩:Bz),j0,wT⟩
    refine hK<|Tn<|hS<|Gj (X:=Bool) (fun v=>(u [8] [(17,vB v)])) (fun v=>CW a0 v=some r) ?_ ?_
    ·refine Gg [.a,.a] (u [8] [(17,vB (a0==2))]) (aN)<|iC j0 (fun j0=>?_) (fun j0=>?_)
     ·refine hK<|Tn ⟨(a0==2),j0,wT⟩
     refine Gg [.a,.a] (u [] [(17,vB (a0==8))]) (aN)<|iC j0 (fun j0=>?_) (fun j0=>?_)
     ·refine hK<|Tn ⟨(a0==8),j0,wT⟩
     refine Rg [.a,.a] (sl 56 [(2,vP [2] (0)),(3,vP [3] (0)),(4,vI a0),(17,vB (a0==9))] [bx [3] [.bool false,.bool false,.bool false,.bool false,.bool false,.bool false,.bool false,.bool false],bx [2] [.bool false,.bool false,.bool false,.bool false,.bool false,.bool false,.bool false,.bool false]]) (aN)<|iC j0 (fun j0=>?_) (fun j0=>?_)
     ·refine hK<|Tn ⟨(a0==9),j0,wT⟩
     refine Gg [.a,.a] (u [] [(17,vB (a0==15))]) (aN)<|iC j0 (fun j0=>?_) (fun j0=>?_)
     ·refine hK<|Tn ⟨(a0==15),j0,wT⟩
     refine Gg [.a,.a] (u [] [(17,vB (a0==16))]) (aN)<|iC j0 (fun j0=>?_) (fun j0=>?_)
     ·refine hK<|Tn ⟨(a0==16),j0,wT⟩
     refine Gg [.a,.a] (u [] [(17,vB (a0==17))]) (aN)<|iC j0 (fun j0=>?_) (fun j0=>?_)
     ·refine hK<|Tn ⟨(a0==17),j0,wT⟩
     refine Ge [.a,.a] (u [] [(17,vB (a0==25)),(24,vB (a0==25))]) (aN)<|Tn ⟨(a0==25),j0,wT⟩
    rintro x0 i0
    replace i0:CW a0 x0=some r:=i0
    unfold CW at i0
    refine iC i0 (fun i0=>?_) (fun i0=>?_)
    ·refine hE<|Te<|Te<|qY<|Te<|qY<|Te<|qX<|Tn ⟨(⟨false,false,false,false,false,false,false,false⟩:Bz),i0,wT⟩
    refine hK<|Tn<|hS<|Gg [.a,.a] (u [17] [(25,vB (a0==3))]) (aN)<|iC i0 (fun i0=>?_) (fun i0=>?_)
    ·refine hE<|Te<|Te<|qY<|Te<|qY<|Te<|qY<|Te<|qX<|Tn<|Rg (nA 4) (sl 56 [(2,vP [2] (0)),(3,vP [3] (0))] [bx [3] [.bool true,.bool false,.bool false,.bool true,.bool false,.bool false,.bool false,.bool false],bx [2] [.bool false,.bool false,.bool false,.bool false,.bool false,.bool false,.bool false,.bool false]]) (aN)<|hE<|qY<|Te<|qY<|Te<|qY<|Te<|qY<|Te<|qY<|Te<|qY<|Te<|qX<|Tn ⟨(⟨true,false,false,true,false,false,false,false⟩:Bz),i0,wT⟩
    refine hK<|Tn<|hS<|Rg [.a,.a] (sl 56 [(2,vP [2] (0)),(3,vP [3] (0)),(4,vI a0),(27,vB (a0==12))] [bx [3] [.bool false,.bool false,.bool false,.bool false,.bool false,.bool false,.bool false,.bool false],bx [2] [.bool false,.bool false,.bool false,.bool false,.bool false,.bool false,.bool false,.bool false]]) (aN)<|iC i0 (fun i0=>?_) (fun i0=>?_)
    ·refine hE<|Te<|Te<|qY<|Te<|qY<|Te<|qY<|Te<|qY<|Te<|qX<|Tn<|Gg (nA 6) (uo [4,27] [] [.s 0 [(0,.bool true),(1,.bool true),(4,.bool true)],.k 1]) (aN)<|hE<|qY<|Te<|qY<|Te<|qY<|Te<|qY<|Te<|qY<|Te<|qX<|Tn ⟨(⟨true,true,false,false,true,false,false,false⟩:Bz),i0,wT⟩
    refine hK<|Tn<|hS<|Gg [.a,.a] (u [27] [(29,vB (a0==13))]) (aN)<|iC i0 (fun i0=>?_) (fun i0=>?_)
    ·refine hE<|Te<|Te<|qY<|Te<|qY<|Te<|qY<|Te<|qY<|Te<|qY<|Te<|qX<|Tn<|Gg (nA 4) (uo [4,29] [] [.s 0 [(0,.bool true),(7,.bool true)],.k 1]) (aN)<|hE<|qY<|Te<|qY<|Te<|qY<|Te<|qY<|Te<|qX<|Tn ⟨(⟨true,false,false,false,false,false,false,true⟩:Bz),i0,wT⟩
    refine hK<|Tn<|hS<|Gg [.a,.a] (u [29] [(31,vB (a0==14))]) (aN)<|iC i0 (fun i0=>?_) (fun i0=>?_)
    ·refine hE<|Te<|Te<|qY<|Te<|qY<|Te<|qY<|Te<|qY<|Te<|qY<|Te<|qY<|Te<|qX<|Tn<|Gg [.a,.a] (uo [4,31] [] [.s 0 [(6,.bool true)],.k 1]) (aN)<|hE<|qY<|Te<|qY<|Te<|qY<|Te<|qX<|Tn ⟨(⟨false,false,false,false,false,false,true,false⟩:Bz),i0,wT⟩
    refine hK<|Tn<|hS<|Gg [.a,.a] (u [31] [(33,vB (a0==18))]) (aN)<|iC i0 (fun i0=>?_) (fun i0=>?_)
    ·refine hE<|Te<|Te<|qY<|Te<|qY<|Te<|qY<|Te<|qY<|Te<|qY<|Te<|qY<|Te<|qY<|Te<|qX<|Tn<|Gg (nA 6) (uo [4,33] [] [.s 0 [(0,.bool true),(1,.bool true),(5,.bool true)],.k 1]) (aN)<|hE<|qY<|Te<|qY<|Te<|qX<|Tn ⟨(⟨true,true,false,false,false,true,false,false⟩:Bz),i0,wT⟩
    refine hK<|Tn<|hS<|Gg [.a,.a] (u [33] [(35,vB (a0==20))]) (aN)<|iC i0 (fun i0=>?_) (fun i0=>?_)
    ·refine hE<|Te<|Te<|qY<|Te<|qY<|Te<|qY<|Te<|qY<|Te<|qY<|Te<|qY<|Te<|qY<|Te<|qY<|Te<|qX<|Tn<|Gg [.a,.a] (uo [4,35] [] [.s 0 [(1,.bool true)],.k 1]) (aN)<|hE<|qY<|Te<|qX<|Tn ⟨(⟨false,true,false,false,false,false,false,false⟩:Bz),i0,wT⟩
    refine hK<|Tn<|Gg [.a,.a] (u [4,35] [(37,vB (a0==21))]) (aN)<|iC i0 (fun i0=>?_) (fun i0=>?_)
    ·refine hE<|Te<|qY<|Te<|qY<|Te<|qY<|Te<|qY<|Te<|qY<|Te<|qY<|Te<|qY<|Te<|qY<|Te<|qY<|Te<|qX<|Tn<|Gg [.a,.a] (uo [37] [] [.s 0 [(5,.bool true)],.k 1]) (aN)<|hE<|qX<|Tn ⟨(⟨false,false,false,false,false,true,false,false⟩:Bz),i0,wT⟩
    refine hK<|Tn<|hE<|qY<|Te<|qY<|Te<|qY<|Te<|qY<|Te<|qY<|Te<|qY<|Te<|qY<|Te<|qY<|Te<|qY<|Te<|qY<|Te<|qX<|Tn ⟨(⟨false,false,false,false,false,false,false,false⟩:Bz),i0,wT⟩
   rintro o0 t0
   replace t0:Hp o0=some r:=t0
   unfold Hp at t0
   refine Ge [.a,.a] (uo [] [(40,vP [3] (1))] [.e (bx [3] (Ef ({o0 with amount:=true}))),.k 1]) (aN)<|qN<|Tn ⟨({o0 with amount:=true}),t0,wT⟩
  rintro n0 q0
  replace q0:Ho n0=some r:=q0
  unfold Ho at q0
  refine Gg [.a,.a] (uo [] [] [.e (bx [3] (Ef ({n0 with ref:=true}))),.k 1]) (aN)<|hE<|qY<|Te<|qY<|Te<|qY<|Te<|qY<|Te<|qY<|Te<|qY<|Te<|qY<|Te<|qX<|Tn ⟨({n0 with ref:=true}),q0,wT⟩
 rintro m0 p0
 replace p0:CA m0=some r:=p0
 unfold CA at p0
 exact Gg [.a,.a] (uo [3] [] [.e (bx [2] (Ef m0))]) (aN)<|hR<|bE (vA Ef m0) (.agg (Ef m0)) (congrArg (vA Ef) (sI p0))
def DX (b1_1:Bv):Option (Bv):=
 some ({b1_1 with Kind:=(0:Int)})
def EF (b1_3:Bv):Option (Bv):=
 DX ({b1_3 with N:=(0:Int)})
def JI (a0:Bv):Option (Bv):=
 (if(a0.Kind==2)=true then
  EF ({a0 with Filter:=(⟨0,0,0,0,0,0,0,[],0,0,(⟨0,0⟩:Ae),(⟨0,0⟩:Ae),(⟨0,0⟩:Ae)⟩:Af)})
 else
  (if(a0.Kind==0)=true then
   EF a0
  else
   (if(a0.Kind==4)=true then
    DX ({a0 with Counter:=(0:Int)})
   else
    DX a0)))
def Vr (a0:Bv) (r:Bv):Prop:=Ah Tryz.prog I0 224 [vA BK a0] (· =vA BK r)
theorem Ul {a0:Bv} {r:Bv} (h:JI a0=some r):Vr a0 r:=by
 refine Ah.bo Ag Tryz.func224 rfl Tryz.ntmps224 [.cell 2 139] fun _ _ _ _=>?_
 unfold JI at h
 refine Rg [.a,.a] (sl 17 [(1,vP [1] (0)),(2,vP [2] (0))] [bx [2] [Aa 0,Aa 0,Aa 0,Aa 0,Aa 0,Aa 0,Aa 0,Aa 0,Aa 0,Aa 0,.str ([]),Aa 0,Aa 0,Aa 0,Aa 0,Aa 0,Aa 0,Aa 0,Aa 0],bx [1] (BK a0)]) (aN)<|Gj (X:=Bv) (fun v=>(uo [] [] [.k 0,.e (bx [1] (BK v))])) (fun v=>DX v=some r) ?_ ?_
 ·refine Gg [.a,.a] (u [] [(4,vI a0.Kind)]) (aN)<|hB<|hS<|hB<|Gj (X:=Bv) (fun v=>(uo [4] [] [.k 0,.e (bx [1] (BK v))])) (fun v=>EF v=some r) ?_ ?_
  ·refine hB<|hS<|hB<|hS<|hS<|Gg [.a,.a] (u [] [(5,vB (a0.Kind==2))]) (aN)<|iC h (fun h=>?_) (fun h=>?_)
   ·refine hE<|Te<|Te<|qX<|Tn<|Ge (nA 3) (uo [] [(11,.agg [Aa 0,Aa 0,Aa 0,Aa 0,Aa 0,Aa 0,Aa 0,.str ([]),Aa 0,Aa 0,Aa 0,Aa 0,Aa 0,Aa 0,Aa 0,Aa 0]),(12,vP [1] (3))] [.k 0,.e (bx [1] (BK ({a0 with Filter:=(⟨0,0,0,0,0,0,0,[],0,0,(⟨0,0⟩:Ae),(⟨0,0⟩:Ae),(⟨0,0⟩:Ae)⟩:Af)})))]) (aC (And.intro trivial YS)<|aN)<|qN<|Tn ⟨({a0 with Filter:=(⟨0,0,0,0,0,0,0,[],0,0,(⟨0,0⟩:Ae),(⟨0,0⟩:Ae),(⟨0,0⟩:Ae)⟩:Af)}),h,wT⟩
   refine hK<|Tn<|hS<|Gg [.a,.a] (u [5] [(7,vB (a0.Kind==0))]) (aN)<|iC h (fun h=>?_) (fun h=>?_)
   ·refine hE<|Te<|Te<|qY<|Te<|qX<|Tn ⟨a0,h,wT⟩
   refine hK<|Tn<|Gg [.a,.a] (u [4,7] [(9,vB (a0.Kind==4))]) (aN)<|iC h (fun h=>?_) (fun h=>?_)
   ·refine hE<|Te<|qY<|Te<|qY<|Te<|qX<|Tn<|Gg [.a,.a] (uo [9] [] [.k 0,.e (bx [1] (BK ({a0 with Counter:=(0:Int)})))]) (aN)<|hE<|qX<|Tn ⟨({a0 with Counter:=(0:Int)}),h,wT⟩
   refine hK<|Tn<|hE<|qY<|Te<|qY<|Te<|qY<|Te<|qX<|Tn ⟨a0,h,wT⟩
  rintro j0 m0
  replace m0:EF j0=some r:=m0
  unfold EF at m0
  refine Gg [.a,.a] (uo [] [] [.k 0,.e (bx [1] (BK ({j0 with N:=(0:Int)})))]) (aN)<|hE<|qY<|Te<|qX<|Tn ⟨({j0 with N:=(0:Int)}),m0,wT⟩
 rintro i0 k0
 replace k0:DX i0=some r:=k0
 unfold DX at k0
 exact Gg [.a,.a] (uo [] [] [.k 0,.e (bx [1] (BK ({i0 with Kind:=(0:Int)})))]) (aN)<|Gg [.a,.a] (uo [1] [] [.e (bx [2] (BK ({i0 with Kind:=(0:Int)})))]) (aN)<|hR<|bE (vA BK ({i0 with Kind:=(0:Int)})) (.agg (BK ({i0 with Kind:=(0:Int)}))) (congrArg (vA BK) (sI k0))
def Od (a0:A6 (Int)):Option (A1):=
 (idx a0.l (0:Int)).bind fun e1=>
 some (⟨e1,0,(⟨a0.x1,a0.x2,a0.x3,a0.x4,a0.x5⟩:A5 (Int))⟩:A1)
def Y0 (a0:A6 (Int)) (r:A1):Prop:=Ah Tryz.prog I0 225 [vA (T6 (eI .i64)) a0] (· =vA Fj r)
theorem Xt {a0:A6 (Int)} {r:A1} (h:Od a0=some r):Y0 a0 r:=by
 refine Ah.bo Ag Tryz.func225 rfl Tryz.ntmps225 [.cell 2 41] fun _ _ _ _=>?_
 unfold Od at h
 refine Rg [.a,.a] (sl 12 [(1,vP [1] (0)),(2,vP [2] (0))] [bx [2] [Aa 0,Aa 0,Aa (((⟨0,0,0,0,0⟩:A5 (Int))).x0),Aa (((⟨0,0,0,0,0⟩:A5 (Int))).x1),Aa (((⟨0,0,0,0,0⟩:A5 (Int))).x2),Aa (((⟨0,0,0,0,0⟩:A5 (Int))).x3),Aa (((⟨0,0,0,0,0⟩:A5 (Int))).x4)],bx [1] (T6 (eI .i64) a0)]) (aN) ?_
 obtain⟨e1,i0,h⟩:=bS h
 exact Gg [.a,(.v (vI e1)),.a,.a,.a] (uo [] [(3,vP [3] (0))] [.e (bx [3] [Aa e1,Aa 0,Aa (((⟨0,0,0,0,0⟩:A5 (Int))).x0),Aa (((⟨0,0,0,0,0⟩:A5 (Int))).x1),Aa (((⟨0,0,0,0,0⟩:A5 (Int))).x2),Aa (((⟨0,0,0,0,0⟩:A5 (Int))).x3),Aa (((⟨0,0,0,0,0⟩:A5 (Int))).x4)]),.k 0,.k 1]) (aC (Bm i0)<|aC (oK i0 (I1 .i64) (T6 (eI .i64) a0) 0 6 0 1 false (vI e1))<|aC (Eq.refl (vI e1))<|aC (And.intro (show True∧True from⟨trivial,trivial⟩) fi)<|aN)<|hS<|Ai.regN [0,1,4,5,7,15,3] 15 [.a,.a,.a,(.e 0 [Aa e1,Aa 0,Aa (((⟨a0.x1,a0.x2,a0.x3,a0.x4,a0.x5⟩:A5 (Int))).x0),Aa (((⟨a0.x1,a0.x2,a0.x3,a0.x4,a0.x5⟩:A5 (Int))).x1),Aa (((⟨a0.x1,a0.x2,a0.x3,a0.x4,a0.x5⟩:A5 (Int))).x2),Aa (((⟨a0.x1,a0.x2,a0.x3,a0.x4,a0.x5⟩:A5 (Int))).x3),Aa (((⟨a0.x1,a0.x2,a0.x3,a0.x4,a0.x5⟩:A5 (Int))).x4)])] [[3],[2],[1]] (fun n=>⟨[.undef,vP [1] (0),vP [2] (0),vP [3] (0),.undef,.undef,.undef,cond (Nat.testBit n 0) (vP [3] (2)) (.undef),cond (Nat.testBit n 1) (.c (.bsl [3] 2 5)) (.undef),cond (Nat.testBit n 2) (.c (.bsl [1] 1 5)) (.undef),cond (Nat.testBit n 3) (vI 5) (.undef),.undef],List.filterMap id [cond (Nat.testBit n 3) (some (bx [3] [Aa e1,Aa 0,Aa (((⟨a0.x1,a0.x2,a0.x3,a0.x4,a0.x5⟩:A5 (Int))).x0),Aa (((⟨a0.x1,a0.x2,a0.x3,a0.x4,a0.x5⟩:A5 (Int))).x1),Aa (((⟨a0.x1,a0.x2,a0.x3,a0.x4,a0.x5⟩:A5 (Int))).x2),Aa (((⟨a0.x1,a0.x2,a0.x3,a0.x4,a0.x5⟩:A5 (Int))).x3),Aa (((⟨a0.x1,a0.x2,a0.x3,a0.x4,a0.x5⟩:A5 (Int))).x4)])) (some (bx [3] [Aa e1,Aa 0,Aa (((⟨0,0,0,0,0⟩:A5 (Int))).x0),Aa (((⟨0,0,0,0,0⟩:A5 (Int))).x1),Aa (((⟨0,0,0,0,0⟩:A5 (Int))).x2),Aa (((⟨0,0,0,0,0⟩:A5 (Int))).x3),Aa (((⟨0,0,0,0,0⟩:A5 (Int))).x4)])),some (bx [2] [Aa 0,Aa 0,Aa (((⟨0,0,0,0,0⟩:A5 (Int))).x0),Aa (((⟨0,0,0,0,0⟩:A5 (Int))).x1),Aa (((⟨0,0,0,0,0⟩:A5 (Int))).x2),Aa (((⟨0,0,0,0,0⟩:A5 (Int))).x3),Aa (((⟨0,0,0,0,0⟩:A5 (Int))).x4)]),some (bx [1] (T6 (eI .i64) a0))],[],[]⟩) [[],[0≤(0:Int)∧(0:Int)<((5:Nat):Int)∧(0:Int)≤((5:Nat):Int)∧((5:Nat):Int)≤((5:Nat):Int)],[0≤(1:Int)∧(1:Int)<((6:Nat):Int)∧(1:Int)≤((6:Nat):Int)∧((6:Nat):Int)≤((6:Nat):Int)],[[Aa e1,Aa 0,Aa (((⟨0,0,0,0,0⟩:A5 (Int))).x0),Aa (((⟨0,0,0,0,0⟩:A5 (Int))).x1),Aa (((⟨0,0,0,0,0⟩:A5 (Int))).x2),Aa (((⟨0,0,0,0,0⟩:A5 (Int))).x3),Aa (((⟨0,0,0,0,0⟩:A5 (Int))).x4)].take 2++((T6 (eI .i64) a0).drop 1).take 5++[Aa e1,Aa 0,Aa (((⟨0,0,0,0,0⟩:A5 (Int))).x0),Aa (((⟨0,0,0,0,0⟩:A5 (Int))).x1),Aa (((⟨0,0,0,0,0⟩:A5 (Int))).x2),Aa (((⟨0,0,0,0,0⟩:A5 (Int))).x3),Aa (((⟨0,0,0,0,0⟩:A5 (Int))).x4)].drop (2+(((T6 (eI .i64) a0).drop 1).take 5).length)=[Aa e1,Aa 0,Aa (((⟨a0.x1,a0.x2,a0.x3,a0.x4,a0.x5⟩:A5 (Int))).x0),Aa (((⟨a0.x1,a0.x2,a0.x3,a0.x4,a0.x5⟩:A5 (Int))).x1),Aa (((⟨a0.x1,a0.x2,a0.x3,a0.x4,a0.x5⟩:A5 (Int))).x2),Aa (((⟨a0.x1,a0.x2,a0.x3,a0.x4,a0.x5⟩:A5 (Int))).x3),Aa (((⟨a0.x1,a0.x2,a0.x3,a0.x4,a0.x5⟩:A5 (Int))).x4)],((none:Option (TypeId×Nat×Nat))=none)∧True]] DV (by kernel_rfl) (by kernel_rfl) (by decide) (D4.t (by kernel_rfl)) (by kernel_rfl) ⟨trivial,⟨(by decide),trivial⟩,⟨(by decide),trivial⟩,⟨(by kernel_rfl),⟨rfl,trivial⟩,trivial⟩,trivial⟩<|Tn<|Gs (uo [1,7,8,9,10] [] [.k 0,.k 1])<|Gg [.a,.a] (uo [3] [] [.e (bx [2] [Aa e1,Aa 0,Aa (((⟨a0.x1,a0.x2,a0.x3,a0.x4,a0.x5⟩:A5 (Int))).x0),Aa (((⟨a0.x1,a0.x2,a0.x3,a0.x4,a0.x5⟩:A5 (Int))).x1),Aa (((⟨a0.x1,a0.x2,a0.x3,a0.x4,a0.x5⟩:A5 (Int))).x2),Aa (((⟨a0.x1,a0.x2,a0.x3,a0.x4,a0.x5⟩:A5 (Int))).x3),Aa (((⟨a0.x1,a0.x2,a0.x3,a0.x4,a0.x5⟩:A5 (Int))).x4)])]) (aN)<|hR<|bE (.agg [Aa e1,Aa 0,Aa (((⟨a0.x1,a0.x2,a0.x3,a0.x4,a0.x5⟩:A5 (Int))).x0),Aa (((⟨a0.x1,a0.x2,a0.x3,a0.x4,a0.x5⟩:A5 (Int))).x1),Aa (((⟨a0.x1,a0.x2,a0.x3,a0.x4,a0.x5⟩:A5 (Int))).x2),Aa (((⟨a0.x1,a0.x2,a0.x3,a0.x4,a0.x5⟩:A5 (Int))).x3),Aa (((⟨a0.x1,a0.x2,a0.x3,a0.x4,a0.x5⟩:A5 (Int))).x4)]) (.agg (Fj (⟨e1,0,(⟨a0.x1,a0.x2,a0.x3,a0.x4,a0.x5⟩:A5 (Int))⟩:A1))) (congrArg (vA Fj) (sI h))
def KY (a0:A1):Option (Bool):=
 (some (if(decide (0≤a0.Generic))=true then decide (a0.Generic≤99)else false)).bind fun b2=>
 (some (if b2=true then decide (0≤a0.X)else false)).bind fun b3=>
 (some (if b3=true then decide (a0.X≤2)else false)).bind fun b4=>
 some b4
def Fc (a0:A1) (vt7_6:Int):Option ((Int)⊕(Unit⊕Unit)):=
 (if(decide (vt7_6<5))=true then
  (idx a0.Color.l vt7_6).bind fun e9=>
  (some (if(decide (e9<0))=true then true else decide (9<e9))).bind fun b10=>
  (if b10=true then
   some (.inr (.inr ()))
  else
   some (.inl (Ab (vt7_6+1))))
 else
  some (.inr (.inl ())))
def Oe (a0:A1):Option (Bool):=
 (iter (fun(v:Int)=>Fc a0 v) FU (0:Int)).bind (Sum.elim (fun o0=>KY a0) (fun o1=>some false))
def dq (a0:A1) (r:Bool):Prop:=Ah Tryz.prog I0 135 [vA Fj a0] (· =vB r)
theorem Um {a0:A1} {r:Bool} (h:Oe a0=some r):dq a0 r:=by
 refine Ah.bo Ag Tryz.func135 rfl Tryz.ntmps135 [.tmp 2] fun _ _ _ _=>?_
 unfold Oe at h
 refine Rg [.a,.a] (sl 35 [(1,vP [1] (0))] [bx [1] (Fj a0)]) (aN)<|Gj (X:=Unit) (fun v=>(u [] [])) (fun v=>KY a0=some r) ?_ ?_
 ·refine Gg (nA 3) (u [] [(6,vA (dW (eI .i64)) a0.Color),(7,vI 0)]) (aN)<|hB ?_
  obtain⟨d1,q0,h⟩:=bS h
  refine Gi (fun(v:Int)=>(u [] [(7,vI v)])) q0 (wT) ?_
  rintro j0 z0 i0 m0
  replace i0:Fc a0 j0=some z0:=i0
  unfold Fc at i0
  refine Gg [.a] (u [] [(8,vB (decide (j0<5)))]) (aN)<|hS<|iC i0 (fun i0=>?_) (fun i0=>?_)
  ·refine hK<|Tn<|hS<|hB ?_
   obtain⟨e9,o0,i0⟩:=bS i0
   refine Gg [(.v (vI e9)),.a] (u [8] [(4,vI e9)]) (aC (show (0≤j0∧j0<((5:Nat):Int))∧(j0).toNat *1+1≤(dW (eI .i64) a0.Color).length ∧Me false ((j0).toNat *1) 1 (dW (eI .i64) a0.Color)=vI e9 from⟨Bm o0,I5 (e:=eI .i64) (N:=1) (l:=a0.Color.l) (base:=0) (pre:=[]) (post:=[]) (by kernel_rfl) rfl o0 (I1 .i64) (o:=0) (by simp) (by decide) (by decide) (by kernel_rfl)⟩)<|aC (Eq.refl (vI e9))<|aN) ?_
   obtain⟨n0,p0,i0⟩:=bS i0
   refine Gg [.a,.a,.a,.a,.a,(.v (vB n0))] (u [4] [(15,vB n0)]) (aG ((decide (e9<0))==false)<|aF (decide (e9<0))<|aB p0<|aN)<|iC i0 (fun i0=>?_) (fun i0=>?_)
   ·refine Rg [.a] (sl 35 [(2,vB false)] []) (aN)<|hR<|qR<|Tr ?_
    obtain rfl:=m0 _ (sI i0).symm
    replace h:=EL h
    exact Tr<|qR<|Tr<|bQ _ (kB h)
   refine hK<|qN<|Tn<|Ge [.a,.a] (u [] [(7,vI (Ab (j0+1))),(16,vI (Ab (j0+1)))]) (aN)<|Tn ⟨(Ab (j0+1)),(sI i0).symm,wT⟩
  refine hE<|Te ?_
  obtain rfl:=m0 _ (sI i0).symm
  replace h:=Fa h
  refine Te<|qX<|Tn ⟨(),h,wT⟩
 rintro _ k0
 replace k0:KY a0=some r:=k0
 unfold KY at k0
 obtain⟨b2,t0,b3,x0,b4,y0,k0⟩:=M9 k0
 exact Rg [.a,.a,.a,.a,.a,.a,.a,(.v (vB b2)),.a,.a,.a,.a,(.v (vB b3)),.a,.a,.a,.a,(.v (vB b4)),.a] (sl 35 [(2,vB b4)] []) (aG ((decide (0≤a0.Generic))==true)<|aG ((decide (0≤a0.Generic))==true)<|aT (decide (0≤a0.Generic))<|aB t0<|aG (b2==true)<|aG (b2==true)<|aT b2<|aB x0<|aG (b3==true)<|aG (b3==true)<|aT b3<|aB y0<|aN)<|hR<|bQ _ (kB k0)
def Dw (who_t4_1:Bool):Option (Bool×Bool):=
 some (who_t4_1,true)
def BD (vt8_4:Bool):Option (Bool×Bool):=
 (if vt8_4=true then
  Dw false
 else
  some (true,false))
def E2 (a0:Int):Option (Bool×Bool):=
 (if(a0==9)=true then
  Dw true
 else
  (if(a0==1)=true then
   BD (a0==1)
  else
   (if(a0==2)=true then
    BD (a0==2)
   else
    (if(a0==3)=true then
     BD (a0==3)
    else
     (if(a0==4)=true then
      BD (a0==4)
     else
      (if(a0==5)=true then
       BD (a0==5)
      else
       (if(a0==6)=true then
        BD (a0==6)
       else
        (if(a0==7)=true then
         BD (a0==7)
        else
         BD (a0==14)))))))))
def Un (a0:Int) (r:Bool×Bool):Prop:=Ah Tryz.prog I0 138 [vI a0] (· = .tup [vB r.1,vB r.2])
theorem Sd {a0:Int} {r:Bool×Bool} (h:E2 a0=some r):Un a0 r:=by
 refine Ah.bo Ag Tryz.func138 rfl Tryz.ntmps138 [.tmp 2, .tmp 3] fun _ _ _ _=>?_
 unfold E2 at h
 refine Gg [.a,.a] (u [] []) (aN)<|Gg [.a] (u [] [(4,vB false)]) (aN)<|hS<|Gg [.a] (u [0] [(5,vI a0)]) (aN)<|hB<|Sj (X:=Bool) (fun v=>(sl 18 [(4,vB v)] [])) (fun v=>Dw v=some r) ?_ ?_
 ·refine hB<|hS<|hB<|hS<|hS<|Gg [.a,.a] (u [] [(6,vB (a0==9))]) (aN)<|iC h (fun h=>?_) (fun h=>?_)
  ·refine hE<|Te<|Te<|qX<|Tn<|Ge [.a] (u [] [(4,vB true)]) (aN)<|qN<|Tn ⟨true,h,wT⟩
  refine hK<|Tn<|Gj (X:=Bool) (fun v=>(u [5,6] [(8,vB v)])) (fun v=>BD v=some r) ?_ ?_
  ·refine Gg [.a,.a] (u [6] [(8,vB (a0==1))]) (aN)<|iC h (fun h=>?_) (fun h=>?_)
   ·refine hK<|Tn ⟨(a0==1),h,wT⟩
   refine Gg [.a,.a] (u [] [(8,vB (a0==2))]) (aN)<|iC h (fun h=>?_) (fun h=>?_)
   ·refine hK<|Tn ⟨(a0==2),h,wT⟩
   refine Gg [.a,.a] (u [] [(8,vB (a0==3))]) (aN)<|iC h (fun h=>?_) (fun h=>?_)
   ·refine hK<|Tn ⟨(a0==3),h,wT⟩
   refine Rg [.a,.a] (sl 18 [(4,vB false),(5,vI a0),(8,vB (a0==4))] []) (aN)<|iC h (fun h=>?_) (fun h=>?_)
   ·refine hK<|Tn ⟨(a0==4),h,wT⟩
   refine Gg [.a,.a] (u [] [(8,vB (a0==5))]) (aN)<|iC h (fun h=>?_) (fun h=>?_)
   ·refine hK<|Tn ⟨(a0==5),h,wT⟩
   refine Gg [.a,.a] (u [] [(8,vB (a0==6))]) (aN)<|iC h (fun h=>?_) (fun h=>?_)
   ·refine hK<|Tn ⟨(a0==6),h,wT⟩
   refine Gg [.a,.a] (u [] [(8,vB (a0==7))]) (aN)<|iC h (fun h=>?_) (fun h=>?_)
   ·refine hK<|Tn ⟨(a0==7),h,wT⟩
   refine Ge [.a,.a] (u [] [(8,vB (a0==14)),(16,vB (a0==14))]) (aN)<|Tn ⟨(a0==14),h,wT⟩
  rintro m0 j0
  replace j0:BD m0=some r:=j0
  unfold BD at j0
  refine iC j0 (fun j0=>?_) (fun j0=>?_)
  ·refine hE<|Te<|qY<|Te<|qX<|Tn ⟨false,j0,wT⟩
  exact hK<|Tn<|hE<|qY<|Te<|qY<|Te<|qX<|Tn<|Rg [.a,.a] (sl 18 [(2,vB true),(3,vB false)] []) (aN)<|hR<|bQ (.tup [vB true,vB false]) (congrArg (fun(q:Bool×Bool)=>(.tup [vB q.1,vB q.2]:V)) (sI j0))
 rintro i0 k0
 replace k0:Dw i0=some r:=k0
 unfold Dw at k0
 exact hS<|Rg (nA 3) (sl 18 [(2,vB i0),(3,vB true)] []) (aN)<|hR<|Tr<|qR<|Tr<|bQ (.tup [vB i0,vB true]) (congrArg (fun(q:Bool×Bool)=>(.tup [vB q.1,vB q.2]:V)) (sI k0))
def Lq:Option (Bool):=
 some true
def Lr (a0:List (Int)) (i_t3_3:Int):Option ((Int)⊕(Unit⊕Unit)):=
 (if(decide (i_t3_3<(a0.length:Int)))=true then
  (idx a0 (Ab (i_t3_3 - 1))).bind fun e6=>
  (idx a0 i_t3_3).bind fun e7=>
  (if(decide (e7≤e6))=true then
   some (.inr (.inr ()))
  else
   some (.inl (Ab (i_t3_3+1))))
 else
  some (.inr (.inl ())))
def KZ (a0:List (Int)):Option (Bool):=
 (iter (fun(v:Int)=>Lr a0 v) FU (1:Int)).bind (Sum.elim (fun o0=>Lq) (fun o1=>some false))
def aE (a0:List (Int)) (r:Bool):Prop:=Ah Tryz.prog I0 47 [vL (eI .i64) a0] (· =vB r)
theorem Y1 {a0:List (Int)} {r:Bool} (h:KZ a0=some r):aE a0 r:=by
 refine Ah.bo Ag Tryz.func47 rfl Tryz.ntmps47 [.tmp 2] fun _ _ _ _=>?_
 unfold KZ at h
 refine Gg [.a] (u [] []) (aN)<|Sj (X:=Unit) (fun v=>(sl 20 [] [])) (fun v=>Lq=some r) ?_ ?_
 ·refine Gg [.a] (u [] [(3,vI 1)]) (aN)<|hB ?_
  obtain⟨t0,p0,h⟩:=bS h
  refine Gi (fun(v:Int)=>(u [] [(3,vI v)])) p0 (wT) ?_
  rintro j0 q0 i0 m0
  replace i0:Lr a0 j0=some q0:=i0
  unfold Lr at i0
  refine hS<|Gg (nA 4) (u [] [(7,vB (decide (j0<(a0.length:Int))))]) (aN)<|iC i0 (fun i0=>?_) (fun i0=>?_)
  ·refine hK<|Tn<|hS<|hB ?_
   obtain⟨e6,n0,e7,o0,i0⟩:=JX i0
   refine Gq DV [.a,.a,.a,.a,(.v (vI e6)),.a,.a,.a,(.v (vI e7)),.a] (u [7] [(19,vB (decide (e7≤e6)))]) (aC (Bm n0)<|aC (GN n0 (I1 .i64) 0 1 false (vI e6))<|aC (Eq.refl (vI e6))<|aC (Bm o0)<|aC (GN o0 (I1 .i64) 0 1 false (vI e7))<|aC (Eq.refl (vI e7))<|aN)<|iC i0 (fun i0=>?_) (fun i0=>?_)
   ·refine Rg [.a] (sl 20 [(2,vB false)] []) (aN)<|hR<|qR<|Tr ?_
    obtain rfl:=m0 _ (sI i0).symm
    replace h:=EL h
    exact Tr<|qR<|Tr<|bQ _ (kB h)
   refine hK<|qN<|Tn<|Ge (nA 3) (u [] [(3,vI (Ab (j0+1))),(8,vI j0),(9,vI (Ab (j0+1)))]) (aN)<|Tn ⟨(Ab (j0+1)),(sI i0).symm,wT⟩
  refine hE<|Te ?_
  obtain rfl:=m0 _ (sI i0).symm
  replace h:=Fa h
  refine Te<|qX<|Tn ⟨(),h,wT⟩
 rintro _ k0
 replace k0:Lq=some r:=k0
 unfold Lq at k0
 exact Rg [.a] (sl 20 [(2,vB true)] []) (aN)<|hR<|bQ _ (kB k0)
def D2:Option (Bool):=
 some true
def Fo (a0:List (Int)) (a1:List (Int)) (vt13_4:Int):Option ((Int)⊕(Unit⊕Unit)):=
 (if(decide (vt13_4<(a0.length:Int)))=true then
  (idx a0 vt13_4).bind fun e7=>
  (idx a1 vt13_4).bind fun e8=>
  (if(e7 != e8)=true then
   some (.inr (.inr ()))
  else
   some (.inl (Ab (vt13_4+1))))
 else
  some (.inr (.inl ())))
def BJ (a0:List (Int)) (a1:List (Int)):Option (Bool):=
 (if((a0.length:Int) != (a1.length:Int))=true then
  some false
 else
  (iter (fun(v:Int)=>Fo a0 a1 v) FU (0:Int)).bind (Sum.elim (fun o0=>D2) (fun o1=>some false)))
def Mz (a0:List (Int)) (a1:List (Int)) (r:Bool):Prop:=Ah Tryz.prog I0 31 [vL (eI .i64) a0,vL (eI .i64) a1] (· =vB r)
theorem BO {a0:List (Int)} {a1:List (Int)} {r:Bool} (h:BJ a0 a1=some r):Mz a0 a1 r:=by
 refine Ah.bo Ag Tryz.func31 rfl Tryz.ntmps31 [.tmp 4] fun _ _ _ _=>?_
 unfold BJ at h
 refine Gg [.a] (u [] []) (aN)<|hS<|Gg (nA 5) (u [] [(10,vB ((a0.length:Int) != (a1.length:Int)))]) (aN)<|iC h (fun h=>?_) (fun h=>?_)
 ·exact Rg [.a] (sl 26 [(4,vB false)] []) (aN)<|hR<|Tr<|bQ _ (kB h)
 refine hK<|Tn<|Sj (X:=Unit) (fun v=>(sl 26 [] [])) (fun v=>D2=some r) ?_ ?_
 ·refine Gg (nA 3) (u [10] [(12,vI (a0.length:Int)),(13,vI 0)]) (aN)<|hB ?_
  obtain⟨t0,p0,h⟩:=bS h
  refine Gi (fun(v:Int)=>(u [] [(13,vI v)])) p0 (wT) ?_
  rintro j0 q0 i0 m0
  replace i0:Fo a0 a1 j0=some q0:=i0
  unfold Fo at i0
  refine Gg [.a] (u [] [(14,vB (decide (j0<(a0.length:Int))))]) (aN)<|hS<|iC i0 (fun i0=>?_) (fun i0=>?_)
  ·refine hK<|Tn<|hS<|hB<|Gg [.a,.a] (u [14] [(5,vI j0)]) (aN) ?_
   obtain⟨e7,n0,e8,o0,i0⟩:=JX i0
   refine Gq DV [.a,.a,.a,(.v (vI e7)),.a,.a,.a,(.v (vI e8)),.a] (u [5] [(24,vB (e7 != e8))]) (aC (Bm n0)<|aC (GN n0 (I1 .i64) 0 1 false (vI e7))<|aC (Eq.refl (vI e7))<|aC (Bm o0)<|aC (GN o0 (I1 .i64) 0 1 false (vI e8))<|aC (Eq.refl (vI e8))<|aN)<|iC i0 (fun i0=>?_) (fun i0=>?_)
   ·refine Rg [.a] (sl 26 [(4,vB false)] []) (aN)<|hR<|qR<|Tr ?_
    obtain rfl:=m0 _ (sI i0).symm
    replace h:=EL h
    exact Tr<|qR<|Tr<|bQ _ (kB h)
   refine hK<|qN<|Tn<|Re [.a,.a] (sl 26 [(0,vL (eI .i64) a0),(1,vL (eI .i64) a1),(12,vI (a0.length:Int)),(13,vI (Ab (j0+1))),(24,vB (e7 != e8)),(25,vI (Ab (j0+1)))] []) (aN)<|Tn ⟨(Ab (j0+1)),(sI i0).symm,wT⟩
  refine hE<|Te ?_
  obtain rfl:=m0 _ (sI i0).symm
  replace h:=Fa h
  refine Te<|qX<|Tn ⟨(),h,wT⟩
 rintro _ k0
 replace k0:D2=some r:=k0
 unfold D2 at k0
 exact Rg [.a] (sl 26 [(4,vB true)] []) (aN)<|hR<|bQ _ (kB k0)
def Ax:Option (Bool):=
 some true
def AR (a0:List (Ao)) (a1:List (Ao)) (vt17_4:Int):Option ((Int)⊕(Unit⊕Unit)):=
 (if(decide (vt17_4<(a0.length:Int)))=true then
  (idx a0 vt17_4).bind fun e7=>
  (idx a1 vt17_4).bind fun e8=>
  (if(!(e7==e8))=true then
   some (.inr (.inr ()))
  else
   some (.inl (Ab (vt17_4+1))))
 else
  some (.inr (.inl ())))
def AW (a0:List (Ao)) (a1:List (Ao)):Option (Bool):=
 (if((a0.length:Int) != (a1.length:Int))=true then
  some false
 else
  (iter (fun(v:Int)=>AR a0 a1 v) FU (0:Int)).bind (Sum.elim (fun o0=>Ax) (fun o1=>some false)))
def BU (a0:List (Ao)) (a1:List (Ao)) (r:Bool):Prop:=Ah Tryz.prog I0 59 [vL Ac a0,vL Ac a1, .c (.fn 30)] (· =vB r)
theorem BP {a0:List (Ao)} {a1:List (Ao)} {r:Bool} (h:AW a0 a1=some r):BU a0 a1 r:=by
 refine Ah.bo Ag Tryz.func59 rfl Tryz.ntmps59 [.tmp 6] fun _ _ _ _=>?_
 unfold AW at h
 refine Gg [.a] (u [] []) (aN)<|hS<|Gg (nA 5) (u [] [(14,vB ((a0.length:Int) != (a1.length:Int)))]) (aN)<|iC h (fun h=>?_) (fun h=>?_)
 ·exact Rg [.a] (sl 32 [(6,vB false)] []) (aN)<|hR<|Tr<|bQ _ (kB h)
 refine hK<|Tn<|Sj (X:=Unit) (fun v=>(sl 32 [] [])) (fun v=>Ax=some r) ?_ ?_
 ·refine Gg (nA 3) (u [0,14] [(15,vL Ac a0),(16,vI (a0.length:Int)),(17,vI 0)]) (aN)<|hB ?_
  obtain⟨t0,p0,h⟩:=bS h
  refine Gi (fun(v:Int)=>(u [] [(17,vI v)])) p0 (wT) ?_
  rintro j0 q0 i0 m0
  replace i0:AR a0 a1 j0=some q0:=i0
  unfold AR at i0
  refine Gg [.a] (u [] [(18,vB (decide (j0<(a0.length:Int))))]) (aN)<|hS<|iC i0 (fun i0=>?_) (fun i0=>?_)
  ·refine hK<|Tn<|hS<|hB ?_
   obtain⟨e7,n0,i0⟩:=bS i0
   refine Gg [.a,.a,(.v (vA Ac e7)),.a,.a,.a] (uo [18] [(7,vI j0),(8,vP [8] (0))] [.e (bx [8] (Ac e7))]) (aC (Bm n0)<|aC (GN n0 GX 0 19 true (vA Ac e7))<|aC (Eq.refl (vA Ac e7))<|aN) ?_
   obtain⟨e8,o0,i0⟩:=bS i0
   refine Gg [.a,.a,.a,(.v (vA Ac e8)),.a,.a] (uo [7] [(9,vP [9] (0))] [.e (bx [9] (Ac e8)),.k 0]) (aC (Bm o0)<|aC (GN o0 GX 0 19 true (vA Ac e8))<|aC (Eq.refl (vA Ac e8))<|aN)<|hS<|hO<|Rp 3 (nA 3) (sl 32 [(1,vL Ac a1),(2,.c (.fn 30)),(8,vP [8] (0)),(9,vP [9] (0)),(15,vL Ac a0),(16,vI (a0.length:Int)),(17,vI j0),(26,.c (.fn 30)),(27,vA Ac e7),(28,vA Ac e8)] [bx [9] (Ac e8),bx [8] (Ac e7)]) (aN)<|rI rfl rfl<|Ei 29 [vA Ac e7,vA Ac e8] [] Tryz.func30 Tryz.ntmps30 [.tmp 4] rfl rfl rfl rfl fun _ _ _ _=>Gg (nA 3) (uo [0,1] [(2,vP [2,29] (0)),(3,vP [3,29] (0))] [.e (bx [3,29] (Ac e8)),.e (bx [2,29] (Ac e7)),.k 0,.k 1]) (aN)<|Gg [.a,.a,(.v (vB (e7==e8))),.a] (uo [2,3] [(4,vB (e7==e8))] [.k 2,.k 3]) (aC (congrArg (fun z=>V.c (.bool (z))) (jt e7 e8))<|aN)<|hR<|nR (vB (e7==e8))<|Gw [.a] (u [] [(30,vB (!(e7==e8)))]) (aN)<|Tn<|iC i0 (fun i0=>?_) (fun i0=>?_)
   ·refine Rg [.a] (sl 32 [(6,vB false)] []) (aN)<|hR<|qR<|Tr ?_
    obtain rfl:=m0 _ (sI i0).symm
    replace h:=EL h
    exact Tr<|qR<|Tr<|bQ _ (kB h)
   refine hK<|qN<|Tn<|Ge [.a,.a] (u [] [(17,vI (Ab (j0+1))),(31,vI (Ab (j0+1)))]) (aN)<|Tn ⟨(Ab (j0+1)),(sI i0).symm,wT⟩
  refine hE<|Te ?_
  obtain rfl:=m0 _ (sI i0).symm
  replace h:=Fa h
  refine Te<|qX<|Tn ⟨(),h,wT⟩
 rintro _ k0
 replace k0:Ax=some r:=k0
 unfold Ax at k0
 exact Rg [.a] (sl 32 [(6,vB true)] []) (aN)<|hR<|bQ _ (kB k0)
def Ay:Option (Bool):=
 some true
def AS (a0:List (Dy)) (a1:List (Dy)) (vt17_4:Int):Option ((Int)⊕(Unit⊕Unit)):=
 (if(decide (vt17_4<(a0.length:Int)))=true then
  (idx a0 vt17_4).bind fun e7=>
  (idx a1 vt17_4).bind fun e8=>
  (if(!(e7==e8))=true then
   some (.inr (.inr ()))
  else
   some (.inl (Ab (vt17_4+1))))
 else
  some (.inr (.inl ())))
def AX (a0:List (Dy)) (a1:List (Dy)):Option (Bool):=
 (if((a0.length:Int) != (a1.length:Int))=true then
  some false
 else
  (iter (fun(v:Int)=>AS a0 a1 v) FU (0:Int)).bind (Sum.elim (fun o0=>Ay) (fun o1=>some false)))
def BV (a0:List (Dy)) (a1:List (Dy)) (r:Bool):Prop:=Ah Tryz.prog I0 116 [vL Bg a0,vL Bg a1, .c (.fn 62)] (· =vB r)
theorem BQ {a0:List (Dy)} {a1:List (Dy)} {r:Bool} (h:AX a0 a1=some r):BV a0 a1 r:=by
 refine Ah.bo Ag Tryz.func116 rfl Tryz.ntmps116 [.tmp 6] fun _ _ _ _=>?_
 unfold AX at h
 refine Gg [.a] (u [] []) (aN)<|hS<|Gg (nA 5) (u [] [(14,vB ((a0.length:Int) != (a1.length:Int)))]) (aN)<|iC h (fun h=>?_) (fun h=>?_)
 ·exact Rg [.a] (sl 32 [(6,vB false)] []) (aN)<|hR<|Tr<|bQ _ (kB h)
 refine hK<|Tn<|Sj (X:=Unit) (fun v=>(sl 32 [] [])) (fun v=>Ay=some r) ?_ ?_
 ·refine Gg (nA 3) (u [0,14] [(15,vL Bg a0),(16,vI (a0.length:Int)),(17,vI 0)]) (aN)<|hB ?_
  obtain⟨t0,p0,h⟩:=bS h
  refine Gi (fun(v:Int)=>(u [] [(17,vI v)])) p0 (wT) ?_
  rintro j0 q0 i0 m0
  replace i0:AS a0 a1 j0=some q0:=i0
  unfold AS at i0
  refine Gg [.a] (u [] [(18,vB (decide (j0<(a0.length:Int))))]) (aN)<|hS<|iC i0 (fun i0=>?_) (fun i0=>?_)
  ·refine hK<|Tn<|hS<|hB ?_
   obtain⟨e7,n0,i0⟩:=bS i0
   refine Gg [.a,.a,(.v (vA Bg e7)),.a,.a,.a] (uo [18] [(7,vI j0),(8,vP [8] (0))] [.e (bx [8] (Bg e7))]) (aC (Bm n0)<|aC (GN n0 T7 0 2 true (vA Bg e7))<|aC (Eq.refl (vA Bg e7))<|aN) ?_
   obtain⟨e8,o0,i0⟩:=bS i0
   refine Gg [.a,.a,.a,(.v (vA Bg e8)),.a,.a] (uo [7] [(9,vP [9] (0))] [.e (bx [9] (Bg e8)),.k 0]) (aC (Bm o0)<|aC (GN o0 T7 0 2 true (vA Bg e8))<|aC (Eq.refl (vA Bg e8))<|aN)<|hS<|hO<|Rp 3 (nA 3) (sl 32 [(1,vL Bg a1),(2,.c (.fn 62)),(8,vP [8] (0)),(9,vP [9] (0)),(15,vL Bg a0),(16,vI (a0.length:Int)),(17,vI j0),(26,.c (.fn 62)),(27,vA Bg e7),(28,vA Bg e8)] [bx [9] (Bg e8),bx [8] (Bg e7)]) (aN)<|rI rfl rfl<|Ei 29 [vA Bg e7,vA Bg e8] [] Tryz.func62 Tryz.ntmps62 [.tmp 4] rfl rfl rfl rfl fun _ _ _ _=>Gg (nA 3) (uo [0,1] [(2,vP [2,29] (0)),(3,vP [3,29] (0))] [.e (bx [3,29] (Bg e8)),.e (bx [2,29] (Bg e7)),.k 0,.k 1]) (aN)<|Gg [.a,.a,(.v (vB (e7==e8))),.a] (uo [2,3] [(4,vB (e7==e8))] [.k 2,.k 3]) (aC (congrArg (fun z=>V.c (.bool (z))) (kM e7 e8))<|aN)<|hR<|nR (vB (e7==e8))<|Gw [.a] (u [] [(30,vB (!(e7==e8)))]) (aN)<|Tn<|iC i0 (fun i0=>?_) (fun i0=>?_)
   ·refine Rg [.a] (sl 32 [(6,vB false)] []) (aN)<|hR<|qR<|Tr ?_
    obtain rfl:=m0 _ (sI i0).symm
    replace h:=EL h
    exact Tr<|qR<|Tr<|bQ _ (kB h)
   refine hK<|qN<|Tn<|Ge [.a,.a] (u [] [(17,vI (Ab (j0+1))),(31,vI (Ab (j0+1)))]) (aN)<|Tn ⟨(Ab (j0+1)),(sI i0).symm,wT⟩
  refine hE<|Te ?_
  obtain rfl:=m0 _ (sI i0).symm
  replace h:=Fa h
  refine Te<|qX<|Tn ⟨(),h,wT⟩
 rintro _ k0
 replace k0:Ay=some r:=k0
 unfold Ay at k0
 exact Rg [.a] (sl 32 [(6,vB true)] []) (aN)<|hR<|bQ _ (kB k0)
def Ie (l3_1:List (Int)):Option ((List (Int))):=
 some l3_1
def Fp (vt9_5:Int) (l3_10:List (Int)):Option ((Int×(List (Int)))⊕((List (Int)))):=
 some (.inl ((Ab (vt9_5+1)),l3_10))
def JP (a0:Aj) (vt9_5:Int) (l3_6:List (Int)):Option ((Int×(List (Int)))⊕((List (Int)))):=
 (if(decide (vt9_5<(a0.Players.length:Int)))=true then
  (idx a0.Players vt9_5).bind fun e12=>
  (if(!e12.Lost)=true then
   (app 8 l3_6 ([vt9_5]:List (Int))).bind fun l14=>
   Fp vt9_5 l14
  else
   Fp vt9_5 l3_6)
 else
  some (.inr l3_6))
def MA (a0:Aj):Option ((List (Int))):=
 (iter (fun(v:Int×(List (Int)))=>JP a0 v.1 v.2) FU ((0:Int),([]:List (Int)))).bind (fun o0=>Ie o0)
def Uo (a0:Aj) (r:(List (Int))):Prop:=Ah Tryz.prog I0 67 [vA Am a0] (· =vL (eI .i64) r)
theorem Se {a0:Aj} {r:(List (Int))} (h:MA a0=some r):Uo a0 r:=by
 refine Ah.bo Ag Tryz.func67 rfl Tryz.ntmps67 [.tmp 2] fun _ _ _ _=>?_
 unfold MA at h
 refine Rg [.a,.a] (sl 23 [(1,vP [1] (0))] [bx [1] (Am a0)]) (aN)<|Gg [.a] (uo [] [(3,vO [3])] [.e (Bl [3] 3 1 (eI .i64) ([]:List (Int))),.k 0]) (aN)<|Sj (X:=(List (Int))) (fun v=>(sl 23 [(3,vO [3])] [Bl [3] 3 1 (eI .i64) v])) (fun v=>Ie v=some r) ?_ ?_
 ·refine Gg (nA 4) (uo [1] [(7,vL Ad a0.Players),(8,vI (a0.Players.length:Int)),(9,vI 0)] [.k 0]) (aN)<|hB ?_
  obtain⟨j1,d1,h⟩:=bS h
  refine Gi (fun(v:Int×(List (Int)))=>(uo [] [(9,vI v.1)] [.e (Bl [3] 3 1 (eI .i64) v.2)])) d1 (wT) ?_
  rintro⟨j0,n0⟩ z0 i0 i1
  replace i0:JP a0 j0 n0=some z0:=i0
  unfold JP at i0
  refine Gg [.a] (u [] [(10,vB (decide (j0<(a0.Players.length:Int))))]) (aN)<|hS<|iC i0 (fun i0=>?_) (fun i0=>?_)
  ·refine hK<|Tn<|Gj (X:=(List (Int))) (fun v=>(uo [10] [] [.e (Bl [3] 3 1 (eI .i64) v)])) (fun v=>Fp j0 v=some z0) ?_ ?_
   ·refine hB ?_
    obtain⟨m0,t0,i0⟩:=bS i0
    refine Gg [.a,.a,(.v (vA Ad m0)),.a,.a,.a] (uo [10] [(4,vI j0),(5,vP [5] (0))] [.e (bx [5] (Ad m0)),.k 0]) (aC (Bm t0)<|aC (GN t0 C1 0 14 true (vA Ad m0))<|aC (Eq.refl (vA Ad m0))<|aN)<|Gg (nA 3) (uo [5] [(16,vB (!m0.Lost))] [.k 1]) (aN)<|iC i0 (fun i0=>?_) (fun i0=>?_)
    ·obtain⟨p0,x0,i0⟩:=bS i0
     refine Ge [.a,.a,.a,(.e p0.length (p0.flatMap (eI .i64))),.a] (uo [] [(18,vI j0),(19,vO [19]),(20,vO [3])] [.e (Bl [3] 3 1 (eI .i64) p0),.e (Bl [19] 3 1 (eI .i64) ([j0]:List (Int)))]) (aC (M4 x0 (eI .i64))<|aC (Du x0)<|aN)<|qN<|Tn ⟨p0,i0,wT⟩
    refine hK<|qN<|Tn ⟨n0,i0,wT⟩
   rintro q0 k0
   replace k0:Fp j0 q0=some z0:=k0
   unfold Fp at k0
   refine Ge [.a,.a] (u [] [(9,vI (Ab (j0+1))),(21,vI (Ab (j0+1)))]) (aN)<|Tn ⟨((Ab (j0+1)),q0),(sI k0).symm,wT⟩
  refine hE<|Te ?_
  obtain rfl:=i1 _ (sI i0).symm
  refine Te<|qX<|Tn ⟨n0,h,wT⟩
 rintro y0 o0
 replace o0:Ie y0=some r:=o0
 unfold Ie at o0
 exact Gg [.a,.a] (u [3] [(2,vO [3])]) (aN)<|hR<|bE (vO [3]) (vL (eI .i64) y0) (congrArg (vL (eI .i64)) (sI o0))
def C3 (a0:List (Au)):Option (List (Au)):=if a0.length*152≤140737488355328∧a0.length≤maxLen then some a0 else none
theorem G7 {a0 r:List (Au)} (h:C3 a0=some r):Fi Tryz.prog I0 69 [vL (Ad) a0] 73 14 (fun len cs=>len=r.length∧cs=r.flatMap (Ad)):=by
 refine Fi.of (t:=2) (m:=8) Ag (by kernel_rfl) Tryz.func69 rfl rfl Tryz.ntmps69 ?_
 intro w0 av old gv
 unfold C3 at h
 split at h
 ·rename_i hb
  injection h with h;subst h
  refine Rg [.a] (sl 8 [(0,vL (Ad) a0)] []) (aN) ?_
  refine Ai.seq ?_
  refine Ai.seq ?_
  refine Ai.region ?_
  refine Rp 1 [.a] (sl 8 [(0,vL (Ad) a0),(3,vL (Ad) a0)] []) (aN) ?_
  refine Run.inl rfl rfl (EB.nilq (len:=a0.length) (cs:=a0.flatMap (Ad)) rfl (fun b hbn=>?_))
  refine Rw [] (sl 8 [(0,vL (Ad) a0),(3,vL (Ad) a0),(4,vB b)] []) (aN) ?_
  refine Tn ?_
  refine Ai.ifB b (by kernel_rfl) (fun hb1=>?_) (fun hb1=>?_)
  ·have h0:a0=[]:=List.length_eq_zero_iff.1 (hbn hb1)
   refine Rg [.a] (sl 8 [(2, .c (.osl [2]))] [Bl [2] 73 14 (Ad) ([]:List (Au))]) (aN) ?_
   refine Ai.ret ?_
   refine Tr ?_
   exact⟨.inr rfl, .inl ⟨[2],Bl [2] 73 14 (Ad) ([]:List (Au)),0,by kernel_rfl,by kernel_rfl,by kernel_rfl,by kernel_rfl,by rw [h0];exact⟨rfl,rfl⟩⟩⟩
  ·refine Ai.skip ?_
   refine Tn ?_
   have hr:app 152 ([]:List (Au)) a0=some a0:=by unfold app;rw [if_pos ⟨by simpa using hb.1,by simpa using hb.2⟩];rfl
   refine Rg [.a, .a,(.e a0.length (a0.flatMap (Ad))), .a] (sl 8 [(2, .c (.osl [5]))] [Bl [5] 73 14 (Ad) a0]) (aC (show (a0.flatMap (Ad)).length =a0.length*14 from JA (enc:=Ad) (n:=14) C1 _)<|aC (M4 hr (Ad))<|aC (Du hr)<|aN) ?_
   refine Ai.ret ?_
   exact⟨.inr rfl, .inl ⟨[5],Bl [5] 73 14 (Ad) a0,a0.length,by kernel_rfl,by kernel_rfl,by kernel_rfl,En _ (fun _=>rfl) _,⟨rfl,rfl⟩⟩⟩
 ·cases h
def BB (a0:List (Int)):Option (List (Int)):=if a0.length*8≤140737488355328∧a0.length≤maxLen then some a0 else none
theorem LG {a0 r:List (Int)} (h:BB a0=some r):Fi Tryz.prog I0 72 [vL (eI .i64) a0] 3 1 (fun len cs=>len=r.length∧cs=r.flatMap (eI .i64)):=by
 refine Fi.of (t:=2) (m:=8) Ag (by kernel_rfl) Tryz.func72 rfl rfl Tryz.ntmps72 ?_
 intro w0 av old gv
 unfold BB at h
 split at h
 ·rename_i hb
  injection h with h;subst h
  refine Rg [.a] (sl 8 [(0,vL (eI .i64) a0)] []) (aN) ?_
  refine Ai.seq ?_
  refine Ai.seq ?_
  refine Ai.region ?_
  refine Rp 1 [.a] (sl 8 [(0,vL (eI .i64) a0),(3,vL (eI .i64) a0)] []) (aN) ?_
  refine Run.inl rfl rfl (EB.nilq (len:=a0.length) (cs:=a0.flatMap (eI .i64)) rfl (fun b hbn=>?_))
  refine Rw [] (sl 8 [(0,vL (eI .i64) a0),(3,vL (eI .i64) a0),(4,vB b)] []) (aN) ?_
  refine Tn ?_
  refine Ai.ifB b (by kernel_rfl) (fun hb1=>?_) (fun hb1=>?_)
  ·have h0:a0=[]:=List.length_eq_zero_iff.1 (hbn hb1)
   refine Rg [.a] (sl 8 [(2, .c (.osl [2]))] [Bl [2] 3 1 (eI .i64) ([]:List (Int))]) (aN) ?_
   refine Ai.ret ?_
   refine Tr ?_
   exact⟨.inr rfl, .inl ⟨[2],Bl [2] 3 1 (eI .i64) ([]:List (Int)),0,by kernel_rfl,by kernel_rfl,by kernel_rfl,by kernel_rfl,by rw [h0];exact⟨rfl,rfl⟩⟩⟩
  ·refine Ai.skip ?_
   refine Tn ?_
   have hr:app 8 ([]:List (Int)) a0=some a0:=by unfold app;rw [if_pos ⟨by simpa using hb.1,by simpa using hb.2⟩];rfl
   refine Rg [.a, .a,(.e a0.length (a0.flatMap (eI .i64))), .a] (sl 8 [(2, .c (.osl [5]))] [Bl [5] 3 1 (eI .i64) a0]) (aC (show (a0.flatMap (eI .i64)).length =a0.length*1 from JA (enc:=eI .i64) (n:=1) (I1 .i64) _)<|aC (M4 hr (eI .i64))<|aC (Du hr)<|aN) ?_
   refine Ai.ret ?_
   exact⟨.inr rfl, .inl ⟨[5],Bl [5] 3 1 (eI .i64) a0,a0.length,by kernel_rfl,by kernel_rfl,by kernel_rfl,En _ (fun _=>rfl) _,⟨rfl,rfl⟩⟩⟩
 ·cases h
def MB (a0 r:List (Int)):Prop:=Ah Tryz.prog I0 72 [vL (eI .i64) a0] (· =vL (eI .i64) r)
theorem BR {a0 r:List (Int)} (h:BB a0=some r):MB a0 r:=Fi.flat (LG h)
def B3 (a0:List (Ao)):Option (List (Ao)):=if a0.length*128≤140737488355328∧a0.length≤maxLen then some a0 else none
theorem G8 {a0 r:List (Ao)} (h:B3 a0=some r):Fi Tryz.prog I0 71 [vL (Ac) a0] 63 19 (fun len cs=>len=r.length∧cs=r.flatMap (Ac)):=by
 refine Fi.of (t:=2) (m:=8) Ag (by kernel_rfl) Tryz.func71 rfl rfl Tryz.ntmps71 ?_
 intro w0 av old gv
 unfold B3 at h
 split at h
 ·rename_i hb
  injection h with h;subst h
  refine Rg [.a] (sl 8 [(0,vL (Ac) a0)] []) (aN) ?_
  refine Ai.seq ?_
  refine Ai.seq ?_
  refine Ai.region ?_
  refine Rp 1 [.a] (sl 8 [(0,vL (Ac) a0),(3,vL (Ac) a0)] []) (aN) ?_
  refine Run.inl rfl rfl (EB.nilq (len:=a0.length) (cs:=a0.flatMap (Ac)) rfl (fun b hbn=>?_))
  refine Rw [] (sl 8 [(0,vL (Ac) a0),(3,vL (Ac) a0),(4,vB b)] []) (aN) ?_
  refine Tn ?_
  refine Ai.ifB b (by kernel_rfl) (fun hb1=>?_) (fun hb1=>?_)
  ·have h0:a0=[]:=List.length_eq_zero_iff.1 (hbn hb1)
   refine Rg [.a] (sl 8 [(2, .c (.osl [2]))] [Bl [2] 63 19 (Ac) ([]:List (Ao))]) (aN) ?_
   refine Ai.ret ?_
   refine Tr ?_
   exact⟨.inr rfl, .inl ⟨[2],Bl [2] 63 19 (Ac) ([]:List (Ao)),0,by kernel_rfl,by kernel_rfl,by kernel_rfl,by kernel_rfl,by rw [h0];exact⟨rfl,rfl⟩⟩⟩
  ·refine Ai.skip ?_
   refine Tn ?_
   have hr:app 128 ([]:List (Ao)) a0=some a0:=by unfold app;rw [if_pos ⟨by simpa using hb.1,by simpa using hb.2⟩];rfl
   refine Rg [.a, .a,(.e a0.length (a0.flatMap (Ac))), .a] (sl 8 [(2, .c (.osl [5]))] [Bl [5] 63 19 (Ac) a0]) (aC (show (a0.flatMap (Ac)).length =a0.length*19 from JA (enc:=Ac) (n:=19) GX _)<|aC (M4 hr (Ac))<|aC (Du hr)<|aN) ?_
   refine Ai.ret ?_
   exact⟨.inr rfl, .inl ⟨[5],Bl [5] 63 19 (Ac) a0,a0.length,by kernel_rfl,by kernel_rfl,by kernel_rfl,En _ (fun _=>rfl) _,⟨rfl,rfl⟩⟩⟩
 ·cases h
def HR (a0 r:List (Ao)):Prop:=Ah Tryz.prog I0 71 [vL (Ac) a0] (· =vL (Ac) r)
theorem Hr {a0 r:List (Ao)} (h:B3 a0=some r):HR a0 r:=Fi.flat (G8 h)
def DF (a0:List (Bw)):Option (List (Bw)):=if a0.length*824≤140737488355328∧a0.length≤maxLen then some a0 else none
theorem Iq {a0 r:List (Bw)} (h:DF a0=some r):Fi Tryz.prog I0 73 [vL (An) a0] 57 94 (fun len cs=>len=r.length∧cs=r.flatMap (An)):=by
 refine Fi.of (t:=2) (m:=8) Ag (by kernel_rfl) Tryz.func73 rfl rfl Tryz.ntmps73 ?_
 intro w0 av old gv
 unfold DF at h
 split at h
 ·rename_i hb
  injection h with h;subst h
  refine Rg [.a] (sl 8 [(0,vL (An) a0)] []) (aN) ?_
  refine Ai.seq ?_
  refine Ai.seq ?_
  refine Ai.region ?_
  refine Rp 1 [.a] (sl 8 [(0,vL (An) a0),(3,vL (An) a0)] []) (aN) ?_
  refine Run.inl rfl rfl (EB.nilq (len:=a0.length) (cs:=a0.flatMap (An)) rfl (fun b hbn=>?_))
  refine Rw [] (sl 8 [(0,vL (An) a0),(3,vL (An) a0),(4,vB b)] []) (aN) ?_
  refine Tn ?_
  refine Ai.ifB b (by kernel_rfl) (fun hb1=>?_) (fun hb1=>?_)
  ·have h0:a0=[]:=List.length_eq_zero_iff.1 (hbn hb1)
   refine Rg [.a] (sl 8 [(2, .c (.osl [2]))] [Bl [2] 57 94 (An) ([]:List (Bw))]) (aN) ?_
   refine Ai.ret ?_
   refine Tr ?_
   exact⟨.inr rfl, .inl ⟨[2],Bl [2] 57 94 (An) ([]:List (Bw)),0,by kernel_rfl,by kernel_rfl,by kernel_rfl,by kernel_rfl,by rw [h0];exact⟨rfl,rfl⟩⟩⟩
  ·refine Ai.skip ?_
   refine Tn ?_
   have hr:app 824 ([]:List (Bw)) a0=some a0:=by unfold app;rw [if_pos ⟨by simpa using hb.1,by simpa using hb.2⟩];rfl
   refine Rg [.a, .a,(.e a0.length (a0.flatMap (An))), .a] (sl 8 [(2, .c (.osl [5]))] [Bl [5] 57 94 (An) a0]) (aC (show (a0.flatMap (An)).length =a0.length*94 from JA (enc:=An) (n:=94) KQ _)<|aC (M4 hr (An))<|aC (Du hr)<|aN) ?_
   refine Ai.ret ?_
   exact⟨.inr rfl, .inl ⟨[5],Bl [5] 57 94 (An) a0,a0.length,by kernel_rfl,by kernel_rfl,by kernel_rfl,En _ (fun _=>rfl) _,⟨rfl,rfl⟩⟩⟩
 ·cases h
def CI (a0:List (AZ)):Option (List (AZ)):=if a0.length*768≤140737488355328∧a0.length≤maxLen then some a0 else none
theorem GF {a0 r:List (AZ)} (h:CI a0=some r):Fi Tryz.prog I0 76 [vL (Ak) a0] 59 89 (fun len cs=>len=r.length∧cs=r.flatMap (Ak)):=by
 refine Fi.of (t:=2) (m:=8) Ag (by kernel_rfl) Tryz.func76 rfl rfl Tryz.ntmps76 ?_
 intro w0 av old gv
 unfold CI at h
 split at h
 ·rename_i hb
  injection h with h;subst h
  refine Rg [.a] (sl 8 [(0,vL (Ak) a0)] []) (aN) ?_
  refine Ai.seq ?_
  refine Ai.seq ?_
  refine Ai.region ?_
  refine Rp 1 [.a] (sl 8 [(0,vL (Ak) a0),(3,vL (Ak) a0)] []) (aN) ?_
  refine Run.inl rfl rfl (EB.nilq (len:=a0.length) (cs:=a0.flatMap (Ak)) rfl (fun b hbn=>?_))
  refine Rw [] (sl 8 [(0,vL (Ak) a0),(3,vL (Ak) a0),(4,vB b)] []) (aN) ?_
  refine Tn ?_
  refine Ai.ifB b (by kernel_rfl) (fun hb1=>?_) (fun hb1=>?_)
  ·have h0:a0=[]:=List.length_eq_zero_iff.1 (hbn hb1)
   refine Rg [.a] (sl 8 [(2, .c (.osl [2]))] [Bl [2] 59 89 (Ak) ([]:List (AZ))]) (aN) ?_
   refine Ai.ret ?_
   refine Tr ?_
   exact⟨.inr rfl, .inl ⟨[2],Bl [2] 59 89 (Ak) ([]:List (AZ)),0,by kernel_rfl,by kernel_rfl,by kernel_rfl,by kernel_rfl,by rw [h0];exact⟨rfl,rfl⟩⟩⟩
  ·refine Ai.skip ?_
   refine Tn ?_
   have hr:app 768 ([]:List (AZ)) a0=some a0:=by unfold app;rw [if_pos ⟨by simpa using hb.1,by simpa using hb.2⟩];rfl
   refine Rg [.a, .a,(.e a0.length (a0.flatMap (Ak))), .a] (sl 8 [(2, .c (.osl [5]))] [Bl [5] 59 89 (Ak) a0]) (aC (show (a0.flatMap (Ak)).length =a0.length*89 from JA (enc:=Ak) (n:=89) JE _)<|aC (M4 hr (Ak))<|aC (Du hr)<|aN) ?_
   refine Ai.ret ?_
   exact⟨.inr rfl, .inl ⟨[5],Bl [5] 59 89 (Ak) a0,a0.length,by kernel_rfl,by kernel_rfl,by kernel_rfl,En _ (fun _=>rfl) _,⟨rfl,rfl⟩⟩⟩
 ·cases h
def DG (a0:List (Ci)):Option (List (Ci)):=if a0.length*80≤140737488355328∧a0.length≤maxLen then some a0 else none
theorem Ir {a0 r:List (Ci)} (h:DG a0=some r):Fi Tryz.prog I0 77 [vL (Ar) a0] 61 6 (fun len cs=>len=r.length∧cs=r.flatMap (Ar)):=by
 refine Fi.of (t:=2) (m:=8) Ag (by kernel_rfl) Tryz.func77 rfl rfl Tryz.ntmps77 ?_
 intro w0 av old gv
 unfold DG at h
 split at h
 ·rename_i hb
  injection h with h;subst h
  refine Rg [.a] (sl 8 [(0,vL (Ar) a0)] []) (aN) ?_
  refine Ai.seq ?_
  refine Ai.seq ?_
  refine Ai.region ?_
  refine Rp 1 [.a] (sl 8 [(0,vL (Ar) a0),(3,vL (Ar) a0)] []) (aN) ?_
  refine Run.inl rfl rfl (EB.nilq (len:=a0.length) (cs:=a0.flatMap (Ar)) rfl (fun b hbn=>?_))
  refine Rw [] (sl 8 [(0,vL (Ar) a0),(3,vL (Ar) a0),(4,vB b)] []) (aN) ?_
  refine Tn ?_
  refine Ai.ifB b (by kernel_rfl) (fun hb1=>?_) (fun hb1=>?_)
  ·have h0:a0=[]:=List.length_eq_zero_iff.1 (hbn hb1)
   refine Rg [.a] (sl 8 [(2, .c (.osl [2]))] [Bl [2] 61 6 (Ar) ([]:List (Ci))]) (aN) ?_
   refine Ai.ret ?_
   refine Tr ?_
   exact⟨.inr rfl, .inl ⟨[2],Bl [2] 61 6 (Ar) ([]:List (Ci)),0,by kernel_rfl,by kernel_rfl,by kernel_rfl,by kernel_rfl,by rw [h0];exact⟨rfl,rfl⟩⟩⟩
  ·refine Ai.skip ?_
   refine Tn ?_
   have hr:app 80 ([]:List (Ci)) a0=some a0:=by unfold app;rw [if_pos ⟨by simpa using hb.1,by simpa using hb.2⟩];rfl
   refine Rg [.a, .a,(.e a0.length (a0.flatMap (Ar))), .a] (sl 8 [(2, .c (.osl [5]))] [Bl [5] 61 6 (Ar) a0]) (aC (show (a0.flatMap (Ar)).length =a0.length*6 from JA (enc:=Ar) (n:=6) JF _)<|aC (M4 hr (Ar))<|aC (Du hr)<|aN) ?_
   refine Ai.ret ?_
   exact⟨.inr rfl, .inl ⟨[5],Bl [5] 61 6 (Ar) a0,a0.length,by kernel_rfl,by kernel_rfl,by kernel_rfl,En _ (fun _=>rfl) _,⟨rfl,rfl⟩⟩⟩
 ·cases h
def S9 (a0:Int):Option (Bool):=
 (some (if(decide (97≤a0))=true then decide (a0≤122)else false)).bind fun b1=>
 some b1
end Go.PL
