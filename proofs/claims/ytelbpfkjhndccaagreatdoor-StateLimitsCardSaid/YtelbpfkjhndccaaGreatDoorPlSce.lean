/- Plain laws of states: StateLimits, the verdicts and the law. -/
import Derived.Test.YtelbpfkjhndccaaGreatDoorPlScd
namespace Go.PL
open Go
set_option maxRecDepth 100000
set_option linter.all false
set_option maxHeartbeats 4000000
def U9 (k:Int):Nat:=if k=2 then 500 else if k=3 then 2048 else 64
theorem Qx {α:Type} {f:Nat→α} {n:Nat}:(((List.range n).map f).length :Int)=n:=by simp
theorem gu {n:Nat} {q:Nat→Bool} (h: ∀ i,i<n→q i=true):(List.range n).all q=true:=by
 rw [List.all_eq_true]
 intro i hi
 exact h i (List.mem_range.1 hi)
theorem ZH {n:Nat} {q:Nat→Bool} {c:Bool} (hn:1≤n) (h: ∀ i,i<n→q i=c):(List.range n).all q=c:=by
 cases c
 ·rw [Bool.eq_false_iff]
  intro q'
  have:=List.all_eq_true.1 q' 0 (List.mem_range.2 (by omega))
  rw [h 0 (by omega)]at this
  cases this
 ·exact gu h
theorem nT {a b:Nat}:decide ((a:Int)≤(b:Int))=decide (a≤b):=by rw [Bool.eq_iff_iff];simp
theorem Qy {α:Type} [Inhabited α] {f:Nat→α} {n i:Nat} (h:i<n):((List.range n).map f).getD i default=f i:=by
 rw [GJ (by simpa using h)];simp
theorem v1 (nc:Int) (m:EC) {n:Nat} (h:1≤n):pB nc (fl m 1 n)=(gq (mk [] [] [] [] [] []) m.Waiting&&decide (n≤U9 1)):=by
 have e:fl m 1 n=mk [] [] [] ((List.range n).map fun _=>m.Waiting) [] []:=rfl
 rw [e,ZG,cz _ _ h,Qx]
 have e2:gq (mk [] [] [] ((List.range n).map fun _=>m.Waiting) [] []) m.Waiting=gq (mk [] [] [] [] [] []) m.Waiting:=rfl
 rw [e2,show decide ((n:Int)≤64)=decide (n≤U9 1)from nT (b:=64)]
 cases gq (mk [] [] [] [] [] []) m.Waiting<;>simp [Qv]
theorem v4 (nc:Int) (m:EC) {n:Nat} (h:1≤n):pB nc (fl m 4 n)=(gz (mk [] [] [] [] [] []) m.Cont&&decide (n≤U9 4)):=by
 have e:fl m 4 n=mk [] [] [] [] ((List.range n).map fun _=>m.Cont) []:=rfl
 rw [e,ZG,cz _ _ h,Qx]
 have e2:gz (mk [] [] [] [] ((List.range n).map fun _=>m.Cont) []) m.Cont=gz (mk [] [] [] [] [] []) m.Cont:=rfl
 rw [e2,show decide ((n:Int)≤64)=decide (n≤U9 4)from nT (b:=64)]
 cases gz (mk [] [] [] [] [] []) m.Cont<;>simp [Qv]
theorem v2 (nc:Int) (m:EC) {n:Nat}:pB nc (fl m 2 n)=(true&&decide (n≤U9 2)):=by
 have e:fl m 2 n=mk [] [] [] [] [] ((List.range n).map fun j:Nat=>((j % 2:Nat):Int)):=rfl
 have hx:(((List.range n).map fun j:Nat=>((j % 2:Nat):Int)).all fun p=>JL p 0 1)=true:=by
  rw [List.all_eq_true]
  intro y hy
  obtain⟨j, -,rfl⟩:=List.mem_map.1 hy
  exact gl.2 (by omega)
 rw [e,ZG,hx,Qx,show decide ((n:Int)≤500)=decide (n≤U9 2)from nT (b:=500)]
 simp [Qv]
def jc (m:EC):Bool:= !(m.Item.Kind==1)&&((JL m.Item.X 0 1000000&&(decide ((m.Item.Targets.length:Int)≤4)&&JL m.Item.Control 0 1))&&((m.Item.Kind==2)&&ec m.Item.Ability))
theorem v0 (nc:Int) (m:EC) {n:Nat} (h:1≤n) (hn:n≤3000):pB nc (fl m 0 n)=(jc m&&decide (n≤U9 0)):=by
 have e:fl m 0 n=mk [] [] ((List.range n).map (bi m)) [] [] []:=rfl
 rw [e,ZG,Qx]
 generalize hs:mk [] [] ((List.range n).map (bi m)) [] [] []=s
 have hf: ∀ k,lY s k=none:=fun k=>by subst hs;rfl
 rw [show decide ((n:Int)≤64)=decide (n≤U9 0)from nT (b:=64),List.length_map,List.length_range]
 cases hk:m.Item.Kind==1
 ·have h1:Qv ((List.range n).map (bi m))=[]:=by
   unfold Qv
   rw [List.filter_eq_nil_iff.2 (fun x hx=>by
    obtain⟨j, -,rfl⟩:=List.mem_map.1 hx
    show ¬(m.Item.Kind==1)=true
    rw [hk];simp)]
   rfl
  have h2:(List.range n).all (gp s)=jc m:=by
   refine ZH h (fun i hi=>?_)
   have hst:s.Stack=(List.range n).map (bi m):=by subst hs;rfl
   have hid:(HM s i).count (bi m i).Id =0:=by
    rw [List.count_eq_zero]
    unfold HM
    rw [hst]
    intro q
    obtain⟨x,hx,hxe⟩:=List.mem_map.1 q
    obtain⟨j,hj,rfl⟩:=List.mem_take_iff_getElem.1 hx
    rw [List.getElem_map,List.getElem_range]at hxe
    unfold bi at hxe
    dsimp only at hxe
    omega
   unfold gp
   rw [hst,Qy hi,hid]
   unfold pf gn jc
   have a1:JL (bi m i).Id 1 (Ab (s.NextId - 1))=true:=by
    have:s.NextId=100000:=by subst hs;rfl
    rw [this,BC (by omega) (by omega)]
    exact gl.2 (by unfold bi;dsimp only;omega)
   have a2:((s.Players.length:Int) - 1)=1:=by subst hs;rfl
   rw [a1,a2]
   unfold VM
   rw [hf]
   show (true&&(JL m.Item.X 0 1000000&&(decide ((m.Item.Targets.length:Int)≤4)&&JL m.Item.Control 0 1))&&(if(m.Item.Kind==1)=true then _ else(m.Item.Kind==2)&&(!false&&ec m.Item.Ability))&&(0==0))=_
   rw [hk]
   simp
  rw [h1,h2]
  simp
 ·have h1:(Qv ((List.range n).map (bi m))).all (DD s 5 (-1))=false:=by
   rw [Bool.eq_false_iff]
   intro q
   rw [cy,List.all_eq_true]at q
   have:=q (bi m 0) (List.mem_map.2 ⟨0,List.mem_range.2 (by omega),rfl⟩)
   unfold DD at this
   rw [hf]at this
   have hk':((bi m 0).Kind ==1)=true:=hk
   rw [hk']at this
   cases this
  rw [h1]
  unfold jc
  rw [hk]
  simp
theorem WN (i:Nat): ∀ n:Nat,(((List.range n).map fun j:Nat=>(j:Int)+1).count ((i:Int)+1))=if i<n then 1 else 0
 | 0=>by simp
 | n+1=>by
   rw [List.range_succ,List.map_append,List.count_append,WN i n,List.map_singleton,List.count_singleton]
   by_cases h:n=i
   ·subst h;simp
   ·have:(((n:Int)+1)==((i:Int)+1))=false:=by simp;omega
    simp only [this,Bool.false_eq_true,if_false,Nat.add_zero]
    by_cases h2:i<n
    ·rw [if_pos h2,if_pos (by omega)]
    ·rw [if_neg h2,if_neg (by omega)]
theorem jd (m:EC) (i:Nat) (nc np:Int):VL (Pk m i) nc np=VL (Pk m 0) nc np:=by
 have e1:(Pk m i==XZ (cx (Pk m i)))=(Pk m 0==XZ (cx (Pk m 0))):=by
  rw [Bool.eq_iff_iff]
  unfold Pk XZ cx
  simp
 have d1:decide ((Pk m i).Id <1)=false:=decide_eq_false (by unfold Pk;dsimp only;omega)
 have d2:decide ((Pk m 0).Id <1)=false:=decide_eq_false (by unfold Pk;dsimp only;omega)
 unfold VL IG
 simp only [oX,oY,Option.bind_some,e1,d1,d2]
 rfl
theorem v3 (nc:Int) (m:EC) {n:Nat} (h:1≤n) (hn:n≤3000):pB nc (fl m 3 n)=((decide (m.Object.Stamp<100000)&&VL (Pk m 0) nc 2)&&decide (n≤U9 3)):=by
 have e:fl m 3 n=mk ((List.range n).map (Pk m)) ((List.range n).map fun j:Nat=>(j:Int)+1) [] [] [] []:=rfl
 rw [e,ZG,Qx]
 generalize hs:mk ((List.range n).map (Pk m)) ((List.range n).map fun j:Nat=>(j:Int)+1) [] [] [] []=s
 rw [show decide ((n:Int)≤2048)=decide (n≤U9 3)from nT (b:=2048),List.length_map,List.length_range]
 have ho:s.Objects=(List.range n).map (Pk m):=by subst hs;rfl
 have hr:Ss Ao.Id s.Objects:=fun i j hi hj=>by
  simp only [ho,List.getElem_map,List.getElem_range]
  unfold Pk
  dsimp only
  omega
 have h1:(List.range n).all (Qw nc s)=(decide (m.Object.Stamp<100000)&&VL (Pk m 0) nc 2):=by
  refine ZH h (fun i hi=>?_)
  unfold Qw
  have q1:Ix s i<(s.Objects.getD i default).Id :=by
   unfold Ix
   rw [ho,Qy hi]
   by_cases h0:i=0
   ·subst h0;rw [if_pos rfl];unfold Pk;dsimp only;omega
   ·rw [if_neg h0,Qy (by omega)];unfold Pk;dsimp only;omega
  have q2:s.NextId=100000:=by subst hs;rfl
  have q3:s.NextStamp=100000:=by subst hs;rfl
  have q4:(s.Players.length:Int)=2:=by subst hs;rfl
  rw [decide_eq_true q1,ho,Qy hi,q2,q3,q4,jd]
  rw [decide_eq_true (p:=(Pk m i).Id <100000) (by unfold Pk;dsimp only;omega)]
  rfl
 have h2:(((List.range n).map fun j:Nat=>(j:Int)+1).all (DD s 4 (-1)))=true:=by
  rw [List.all_eq_true]
  intro y hy
  obtain⟨j,hj,rfl⟩:=List.mem_map.1 hy
  have hj:=List.mem_range.1 hj
  have:lY s ((j:Int)+1)=some (Pk m j):=WJ hr (o:=Pk m j) (by rw [ho];exact List.mem_map.2 ⟨j,List.mem_range.2 hj,rfl⟩)
  unfold DD
  rw [this]
  rfl
 have h3:(((List.range n).map (Pk m)).all fun q=>((((List.range n).map fun j:Nat=>(j:Int)+1)++Qv []).count q.Id==1))=true:=by
  rw [List.all_eq_true]
  intro y hy
  obtain⟨j,hj,rfl⟩:=List.mem_map.1 hy
  have hj:=List.mem_range.1 hj
  rw [show Qv []=[] from rfl,List.append_nil]
  have:(Pk m j).Id =(j:Int)+1:=rfl
  rw [this,WN,if_pos hj]
  rfl
 rw [h1,h2,h3]
 cases (decide (m.Object.Stamp<100000)&&VL (Pk m 0) nc 2)<;>simp [Qv]
theorem je (nc:Int) (m:EC) {k:Int} (hk:k=0∨k=1∨k=2∨k=3∨k=4): ∃ c,(k=2→c=true)∧ ∀ n:Nat,1≤n→n≤3000→pB nc (fl m k n)=(c&&decide (n≤U9 k)):=by
 rcases hk with rfl | rfl | rfl | rfl | rfl
 ·exact⟨_,fun h=>by omega,fun n h1 h2=>v0 nc m h1 h2⟩
 ·exact⟨_,fun h=>by omega,fun n h1 h2=>v1 nc m h1⟩
 ·exact⟨_,fun _=>rfl,fun n h1 h2=>v2 nc m⟩
 ·exact⟨_,fun h=>by omega,fun n h1 h2=>v3 nc m h1 h2⟩
 ·exact⟨_,fun h=>by omega,fun n h1 h2=>v4 nc m h1⟩
theorem pk {a:Int} (h:DE .u8 a):0≤a∧a≤255:=by
 simpa [DE,Lit.wf,IntKind.min,IntKind.max,IntKind.signed,IntKind.bits] using h
theorem Su {cs:List HW} {m:EC} {a2:Int} (hm:XW m) (ha:DE .u8 a2):GM cs m a2=some true:=by
 have ha:=pk ha
 obtain⟨k,hk,hk5⟩: ∃ k,Int.tmod (Ab a2) 5=k∧(k=0∨k=1∨k=2∨k=3∨k=4):=by
  refine⟨_,rfl,?_⟩
  rw [BC (by omega) (by omega),Int.tmod_eq_emod_of_nonneg (by omega)]
  omega
 obtain⟨c,hc2,hc⟩:=je cs.length m hk5
 have hl:1≤U9 k∧U9 k≤2048:=by
  unfold U9;split
  ·omega
  ·split<;>omega
 have f1:Dm m k 1=some (fl m k 1):=UX m hk5 (n:=1) (by omega)
 have f2:Dm m k (U9 k:Int)=some (fl m k (U9 k)):=UX m hk5 (by omega)
 have f3:Dm m k (Ab ((U9 k:Int)+1))=some (fl m k (U9 k+1)):=by
  rw [wrapS' (by omega)]
  exact UX m hk5 (n:=U9 k+1) (by omega)
 have e1:Hd cs (fl m k 1)=some c:=by
  rw [lN (lP (jb hm k (by omega))).z,hc 1 (by omega) (by omega),decide_eq_true hl.1,Bool.and_true]
 have e2:Hd cs (fl m k (U9 k))=some c:=by
  rw [lN (lP (jb hm k (by omega))).z,hc _ hl.1 (by omega),decide_eq_true (Nat.le_refl _),Bool.and_true]
 have e3:Hd cs (fl m k (U9 k+1))=some false:=by
  rw [lN (lP (jb hm k (by omega))).z,hc _ (by omega) (by omega),decide_eq_false (by omega),Bool.and_false]
 have e4:idx (⟨64,64,500,2048,64⟩:A5 Int).l k=some (U9 k:Int):=by
  rcases hk5 with rfl | rfl | rfl | rfl | rfl<;>rfl
 obtain⟨r,hr⟩:=lA (jb hm k (n:=1) (by omega)) cs
 have e5:(if(k != 2)=true then true else c)=true:=by
  by_cases h:k=2
  ·rw [hc2 h];simp
  ·simp [h]
 unfold GM
 rw [hk]
 cases decide ((40:Int)<(cs.length:Int))
 ·rw [show (false==false)=true from rfl,PD,f1]
  simp only [Option.bind_some,PD,hr,Bool.false_eq_true,if_false]
  cases r
  ·simp only [Bool.not_false,if_true,XY,Option.bind_some]
  ·simp only [Bool.not_true,Bool.false_eq_true,if_false,e4,Option.bind_some,e1,e2,f2,f3,beq_self_eq_true,PD,e3,e5,Bool.not_false,if_true,XY]
 ·rw [show (true==false)=false from rfl,PE,Option.bind_some,PE]
  simp only [Option.bind_some,if_true,XY]
end Go.PL
