/- The pure logic: PlZ, PlPa, PlPb, PlPc, PlPl, PlPs, PlPe, PlPf, PlPg, PlPh, PlPi, PlPj, PlPk, PlPm, PlPn, PlPo, PlPp, PlPr, PlPt, PlPv, PlPz, PlQa, Ta, Tb, Tc, Td, Te, Tf. -/
import Derived.Test.YtiddnfpjgojoaaaGreatDoorPlNtoPlY
import Derived.Lib.ItoaNum
import Derived.Lib.ConvBytes
import Derived.Lib.AtoiErrMem
import Derived.Laws.Cover3
import Derived.Scope
import Derived.Lib.AppendStr
import Derived.Lib.Builder
import Derived.Lib.UnsafeStr
import Derived.MapKept
set_option linter.all false
namespace Go.PL
open Go Go.RowKit
def C7 (n k:Nat):List Bool:=(List.range k).map (Nat.testBit n)
theorem oE (n k:Nat):(C7 n k).length =k:=by simp [C7]
theorem Z1 (n k i:Nat):(C7 n k).toArray.setIfInBounds i true=(C7 (n||| 2 ^ i) k).toArray :=by
 apply Array.ext
 ·simp [C7]
 ·intro j h1 h2
  have hj:j<k:=by simpa [C7] using h2
  have e:((C7 n k).toArray.setIfInBounds i true).toList =(C7 n k).set i true:=by simp
  have e2:((C7 n k).toArray.setIfInBounds i true)[j]=((C7 n k).set i true)[j]'(by simp [C7,hj]):=by simp [←Array.getElem_toList]
  rw [e2,List.getElem_set]
  simp only [C7,List.getElem_toArray,List.getElem_map,List.getElem_range,Nat.testBit_or,Nat.testBit_two_pow]
  split
  ·rename_i h;simp [h]
  ·rename_i h;simp [h]
def U8 (ops:Array Oper) (n:Nat):List Nat:=Region.ready .any ops (C7 n ops.size).toArray
def VK (ops:Array Oper) (nodes:List Nat):Bool:=
 nodes.contains 0&&nodes.all fun n=>(!(U8 ops n).isEmpty ||(C7 n ops.size).all id)&&(U8 ops n).all fun i=>nodes.contains (n||| 2 ^ i)
def kf (ids:List AC) (st:St):St:={st with so:=ids.filterMap fun i=>st.so.find? fun e=>e.id==i}
theorem Sh (ids:List AC) (hn:ids.Nodup) (st:St):Cb st (kf ids st) where
 len:=rfl
 tm:=fun _=> .inr rfl
 so:=fun e he=>by
  simp only [kf,List.mem_filterMap]at he
  obtain⟨i,_,h⟩:=he
  exact List.mem_of_find?_eq_some h
 nd:=fun _=>by
  have: ∀ ids:List AC,((ids.filterMap fun i=>st.so.find? fun e=>e.id==i).map (·.id)).Sublist ids:=by
   intro ids
   induction ids with
   | nil=>simp
   | cons i ids ih=>
     simp only [List.filterMap_cons]
     split
     ·exact ih.cons _
     ·rename_i e he
      have:=List.find?_some he
      simp only [beq_iff_eq]at this
      simp only [List.map_cons,this]
      exact ih.cons_cons _
  exact List.Sublist.nodup (this ids) hn
 gh:=⟨rfl,fun _=> .inr rfl⟩
 pre:=rfl
def fF (P:Program) (I:World→Prop) (ops:Array Oper) (ss:List Stp) (ids:List AC) (st:St) (i:Nat):Option (List Prop×St):=
 match ops[i]?,ss[i]? with
 | some o,some s=>match IQ P I false ops o s st with
   | some (c,st')=>some (c,kf ids st')
   | none=>none
 | _,_=>none
def xx (P:Program) (I:World→Prop) (ops:Array Oper) (ss:List Stp) (ids:List AC) (SL:Nat→St) (nodes:List Nat):List (Option (List Prop×St)):=
 nodes.flatMap fun n=>(U8 ops n).map fun i=>fF P I ops ss ids (SL n) i
def uS (ops:Array Oper) (cs:List (List Prop)) (SL:Nat→St) (nodes:List Nat):List (Option (List Prop×St)):=
 nodes.flatMap fun n=>(U8 ops n).map fun i=>some (cs.getD i [],SL (n||| 2 ^ i))
theorem nc {α β:Type} {f g:α→Nat→β} {r:α→List Nat}: ∀ {l:List α},(l.flatMap fun n=>(r n).map (f n))=(l.flatMap fun n=>(r n).map (g n))→ ∀ n∈l, ∀ i∈r n,f n i=g n i
 | [],_,n,hn,_,_=>by simp at hn
 | a::l,h,n,hn,i,hi=>by
   simp only [List.flatMap_cons]at h
   have hh:=List.append_inj h (by simp)
   rcases List.mem_cons.1 hn with rfl | hn
   ·have:=hh.1
    have:=List.map_inj_left.1 this
    exact this i hi
   ·exact nc hh.2 n hn i hi
def Qc:List (List Prop)→Prop
 | []=>True
 | l::ls=>Bb l∧Qc ls
theorem Si: ∀ {cs:List (List Prop)},Qc cs→ ∀ i,Bb (cs.getD i [])
 | [],_,i=>by simp [Bb]
 | l::ls,h,0=>by simpa using h.1
 | l::ls,h,i+1=>by simpa using Si h.2 i
section
variable {P:Program} {F:Fr} {st:St} {ops:Array Oper}
theorem Z2 {a:Act} {w:World} {G:Bj} (h:R F st a w G) {o:Oper} {K:St→Prop} {Q:Exit→Act→World→Prop} (hs:mS P F.I ops o st K):
 if Region.wanted o (yielded ops a.tmps)=true then o.wp P a w (oe F K) Q else oe F K (a.put o.dst Go.undef) w:=by
 unfold mS at hs
 split at hs
 ·rename_i hg
  rw [Me hg,if_pos rfl]
  exact NI h hs
 ·rename_i j want hg
  split at hs
  ·rename_i g hq
   rw [HF h hg hq]
   exact ZR h hs
  ·exact hs.elim
def qy (l:List Bool):Nat:=(l.filter (! ·)).length
theorem ct: ∀ (l:List Bool) (i:Nat),l[i]? =some false→qy (l.set i true)+1=qy l
 | [],i,h=>by simp at h
 | b::l,0,h=>by simp at h;subst h;simp [qy]
 | b::l,i+1,h=>by
   have:=ct l i (by simpa using h)
   cases b<;>simp_all [qy]<;>omega
theorem fG: ∀ (l:List Bool),qy l=0→l.all id=true
 | [],_=>rfl
 | true::l,h=>by simp [qy]at h ⊢;simpa using h
 | false::l,h=>by simp [qy]at h
theorem yY {nodes:List Nat} {ss:List Stp} {ids:List AC} {cs:List (List Prop)} {SL:Nat→St} {Q:Exit→St→Prop} (hcl:VK ops nodes=true) (hids:ids.Nodup)
 (hst:xx P F.I ops ss ids SL nodes=uS ops cs SL nodes) (hc:Qc cs) (hQ: ∀ n∈nodes,(C7 n ops.size).all id=true→Q .normal (SL n)):
 ∀ (fuel n:Nat) (a:Act) (w:World) (G:Bj),n∈nodes→qy (C7 n ops.size)≤fuel→R F (SL n) a w G→
   wpAny P .any ops (fun e a' w'=> ∃ st' G',Q e st'∧R F st' a' w' G') fuel (C7 n ops.size).toArray a w:=by
 simp only [VK,Bool.and_eq_true,List.all_eq_true,Bool.or_eq_true,Bool.not_eq_true',List.contains_iff_mem]at hcl
 have hall:=nc (r:=U8 ops) hst
 have rdyFalse: ∀ n i,i∈U8 ops n→(C7 n ops.size)[i]? =some false:=by
  intro n i hi
  unfold U8 Region.ready at hi
  simp only [List.mem_filter,List.mem_range,Bool.and_eq_true,Bool.not_eq_true']at hi
  obtain⟨h1,h2,_⟩:=hi
  have hlt:i<(C7 n ops.size).length :=by rw [oE];exact h1
  rw [List.getElem?_eq_getElem hlt]
  simp [Array.getD_eq_getD_getElem?,hlt]at h2
  rw [h2]
 intro fuel
 induction fuel with
 | zero=>
   intro n a w G hn hu hR
   have hz:=fG _ (Nat.le_zero.1 hu)
   have hr:U8 ops n=[]:=by
    rcases hrr:U8 ops n with _ | ⟨i,r⟩
    ·rfl
    ·have:=rdyFalse n i (by rw [hrr];simp)
     rw [List.all_eq_true]at hz
     have:=hz false (List.mem_of_getElem? this)
     simp at this
   exact⟨hr,_,G,hQ n hn hz,hR⟩
 | succ fuel ih=>
   intro n a w G hn hu hR
   refine⟨fun hr=>?_,fun i hi=>?_⟩
   ·have h2:=(hcl.2 n hn).1
    rcases h2 with h2 | h2
    ·have:(U8 ops n).isEmpty =true:=by rw [show U8 ops n=[] from hr];rfl
     rw [this]at h2;cases h2
    ·exact⟨_,G,hQ n hn (by rw [List.all_eq_true];exact h2),hR⟩
   ·have hi':i∈U8 ops n:=hi
    have hstep:=hall n hn i hi'
    unfold fF at hstep
    split at hstep
    ·rename_i o s ho hs
     split at hstep
     ·rename_i c st' hss
      simp only [Option.some.injEq,Prod.mk.injEq]at hstep
      obtain⟨hcc,hst'⟩:=hstep
      have hwp:=Qb (K:=fun s'=>Cb s' (SL (n||| 2 ^ i))) hss (hcc▸Si hc i) (hst'▸Sh ids hids st')
      have hw:=Z2 (Q:=fun e a' w'=> ∃ st' G',Q e st'∧R F st' a' w' G') hR hwp
      have hnext: ∀ a' w',oe F (fun s'=>Cb s' (SL (n||| 2 ^ i))) a' w'→wpAny P .any ops (fun e a' w'=> ∃ st' G',Q e st'∧R F st' a' w' G') fuel ((C7 n ops.size).toArray.setIfInBounds i true) a' w':=by
       intro a' w' ⟨s',G',hl,hR'⟩
       rw [Z1]
       refine ih (n||| 2 ^ i) a' w' G' ((hcl.2 n hn).2 i hi') ?_ (hR'.less hl)
       have hb:=rdyFalse n i hi'
       have e:C7 (n||| 2 ^ i) ops.size=(C7 n ops.size).set i true:=by
        have:=congrArg Array.toList (Z1 n ops.size i)
        simpa using this.symm
       have:=ct _ i hb
       rw [←e]at this
       omega
      unfold wpOp
      rw [ho]
      simp only
      by_cases hwt:Region.wanted o (yielded ops a.tmps)=true
      ·rw [if_pos hwt]at hw ⊢
       exact .inl (Oper.wp_mono hnext hw)
      ·rw [if_neg hwt]at hw ⊢
       exact hnext _ _ hw
     ·cases hstep
    ·cases hstep
theorem Aj.regN {rid:Nat} {l:List Oper} {Q:Exit→St→Prop} (nodes:List Nat) (full:Nat) (ss:List Stp) (ids:List AC) (SL:Nat→St) (cs:List (List Prop)) (h1:P.follows .mixedOrders =true) (hcl:VK l.toArray nodes=true) (hfull:(nodes.all fun n=> !(C7 n l.length).all id||Nat.beq n full)=true) (hids:ids.Nodup)
 (h0:Cb st (SL 0)) (hst:xx P F.I l.toArray ss ids SL nodes=uS l.toArray cs SL nodes) (hc:Qc cs) (hQ:Q .normal (SL full)):Aj P F (.region rid l.toArray true) st Q:=by
 intro a w G hR
 refine wp_region_any h1 ?_
 have hR':=(hR.less h0).same (w':={w with drawn:=w.drawn+1}) ⟨rfl,rfl,rfl⟩ ⟨Nat.le_refl _,fun _ _=>rfl⟩
 have h0':C7 0 l.toArray.size=List.replicate l.toArray.size false:=by
  apply List.ext_getElem<;>simp [C7]
 have key:=yY (P:=P) (ops:=l.toArray) (Q:=Q) hcl hids hst hc (fun n hn hall=>by
  have:=List.all_eq_true.1 hfull n hn
  simp only [Bool.or_eq_true,Bool.not_eq_true']at this
  rcases this with this | this
  ·have:(C7 n l.length).all id=true:=by simpa using hall
   simp_all
  ·rw [Nat.eq_of_beq_eq_true this];exact hQ) l.toArray.size 0 a _ G (by
   simp only [VK,Bool.and_eq_true,List.contains_iff_mem]at hcl
   exact hcl.1) (by
   rw [h0'];simp [qy]) hR'
 rw [h0']at key
 simpa using key
end
end Go.PL
namespace Go.PL
open Go Go.RowKit
section
variable {P:Program} {I:World→Prop} {ops:Array Oper} {st st':St} {K:St→Prop}
theorem Z3: ∀ {l:List Oper} {n:Nat} {ss:List Stp} {st st':St} {cs:List Prop},HM P I false ops (l.take n) ss st=some (cs,st')→Bb cs→CI P I ops (l.drop n) st' K→CI P I ops l st K
 | l,0,ss,st,st',cs,h,hc,hK=>by
   cases ss with
   | nil=>
     simp only [List.take_zero,HM,Option.some.injEq,Prod.mk.injEq]at h
     obtain⟨rfl,rfl⟩:=h
     simpa using hK
   | cons=>simp [HM]at h
 | [],n+1,ss,st,st',cs,h,hc,hK=>by
   cases ss with
   | nil=>
     simp only [List.take_nil,HM,Option.some.injEq,Prod.mk.injEq]at h
     obtain⟨rfl,rfl⟩:=h
     simpa using hK
   | cons=>simp [HM]at h
 | o::l,n+1,[],st,st',cs,h,hc,hK=>by simp [HM]at h
 | o::l,n+1,s::ss,st,st',cs,h,hc,hK=>by
   simp only [List.take_succ_cons,HM]at h
   split at h
   ·rename_i l1 st1 h1
    split at h
    ·rename_i l2 st2 h2
     simp only [Option.some.injEq,Prod.mk.injEq]at h
     obtain⟨rfl,rfl⟩:=h
     obtain⟨q1,q2⟩:=Al.1 hc
     exact Qb (K:=fun s=>CI P I ops l s K) h1 q1 (Z3 h2 q2 (by simpa using hK))
    ·cases h
   ·cases h
theorem Run.part {l:List Oper} (n:Nat) {ss:List Stp} {cs:List Prop} (st':St) (h:HM P I false ops (l.take n) ss st=some (cs,st')) (hc:Bb cs) (hK:CI P I ops (l.drop n) st' K):CI P I ops l st K:=Z3 h hc hK
theorem Run.whole {l:List Oper} {ss:List Stp} {cs:List Prop} (st':St) (h:HM P I false ops l ss st=some (cs,st')) (hc:Bb cs) (hK:K st'):CI P I ops l st K:=cq h hc hK
theorem Run.inl {l rest:List Oper} {o:Oper} (hl:l=o::rest) (hg:o.guard=none) (h:YE P I o st (fun st'=>CI P I ops rest st' K)):CI P I ops l st K:=by
 subst hl
 simp only [CI,mS,hg]
 exact .inl h
theorem Run.inlJ {X:Type} (S:X→St) (Φ:X→Prop) {l rest:List Oper} {o:Oper} (hl:l=o::rest) (hg:o.guard=none) (h:YE P I o st (fun st'=> ∃ v,Φ v∧Cb st' (S v))) (hK: ∀ v,Φ v→CI P I ops rest (S v) K):CI P I ops l st K:=
 Run.inl hl hg fun F a w G Q hI hR=>Oper.wp_mono (fun _ _ ⟨_,G',⟨v,hv,hl⟩,hR'⟩=>⟨S v,G',hK v hv,hR'.less hl⟩) (h F a w G Q hI hR)
theorem p6.ret {rs:List ResultVar} {m:Nat} {pre:AC} {d:Option Nat} {v:V} (h:YL P st rs=some v) (hK:K (st.back m pre d v)):p6 P rs m pre d K .ret st:=by
 have:=qv h
 exact⟨this.1,by rw [this.2];exact hK⟩
end
end Go.PL
namespace Go.PL
open Go Go.RowKit
def HN (l:List Int):List UInt8:=l.map fun n=>UInt8.ofNat n.toNat
theorem KH: ∀ {l:List Int},(∀ n∈l,0≤n∧n<256)→II (l.flatMap (eI .u8))
 | [],_=>trivial
 | n::l,h=>by
   rw [List.flatMap_cons]
   exact⟨h n (by simp),KH (fun m hm=>h m (by simp [hm]))⟩
theorem Mm: ∀ (l:List Int),KB (l.flatMap (eI .u8))=HN l
 | []=>rfl
 | n::l=>by
   rw [List.flatMap_cons]
   show UInt8.ofNat n.toNat::KB (l.flatMap (eI .u8))=_
   rw [Mm l];rfl
end Go.PL
namespace Go.PL
open Go Go.RowKit
theorem WG {α:Type} (e:α→List C) {N:Nat} (hN: ∀ y,(e y).length =N): ∀ (l:List α) (k:Nat) (x:α),l[k]? =some x→l.flatMap e=(l.take k).flatMap e++(e x++(l.drop (k+1)).flatMap e)∧((l.take k).flatMap e).length =k*N
 | [],k,x,h=>by simp at h
 | a::l,0,x,h=>by simp at h;subst h;simp
 | a::l,k+1,x,h=>by
   obtain⟨h1,h2⟩:=WG e hN l k x (by simpa using h)
   constructor
   ·rw [List.flatMap_cons,h1];simp [List.append_assoc]
   ·simp [h2,hN,Nat.add_mul];omega
theorem Z4 {α:Type} (e:α→List C): ∀ (l:List α) (k:Nat) (x':α),k<l.length→(l.set k x').flatMap e=(l.take k).flatMap e++(e x'++(l.drop (k+1)).flatMap e)
 | [],k,x,h=>by simp at h
 | a::l,0,x,h=>by simp
 | a::l,k+1,x,h=>by
   rw [List.set_cons_succ,List.flatMap_cons,Z4 e l k x (by simpa using h)]
   simp [List.append_assoc]
theorem vV {α:Type} [Inhabited α] {l:List α} {i:Int} {x x':α} {e:α→List C} {N o off:Nat} {cs pre post:List C} (hx:idx l i=some x) (hN: ∀ y,(e y).length =N) (hoff:off=pre.length+(i.toNat*N+o)) (ho:o+cs.length≤N)
 (hx':(e x).take o++(cs++(e x).drop (o+cs.length))=e x'):off+cs.length≤(pre++(l.flatMap e++post)).length ∧
  (pre++(l.flatMap e++post)).take off++cs++(pre++(l.flatMap e++post)).drop (off+cs.length)=pre++((l.set i.toNat x').flatMap e++post):=by
 have hb:=BS hx
 have hlt:i.toNat<l.length:=by omega
 have hk:l[i.toNat]? =some x:=by
  rw [qt hx,List.getElem?_eq_getElem hlt,List.getD_eq_getElem?_getD,List.getElem?_eq_getElem hlt];rfl
 obtain⟨h1,h2⟩:=WG e hN l i.toNat x hk
 have h3:=Z4 e l i.toNat x' hlt
 have hex:=hN x
 rw [h1,h3, ←hx']
 subst hoff
 generalize (l.take i.toNat).flatMap e=A at *
 generalize (l.drop (i.toNat+1)).flatMap e=B at *
 generalize e x=X at *
 constructor
 ·simp only [List.length_append];omega
 ·have e1:pre++(A++(X++B)++post)=(pre++(A++X.take o))++((X.drop o).take cs.length++(X.drop (o+cs.length)++(B++post))):=by
   have:X=X.take o++((X.drop o).take cs.length++X.drop (o+cs.length)):=by
    rw [←List.drop_drop,List.take_append_drop,List.take_append_drop]
   conv=>lhs;rw [this]
   simp only [List.append_assoc]
  have l1:(pre++(A++X.take o)).length =pre.length+(i.toNat*N+o):=by simp only [List.length_append,List.length_take];omega
  have l2:((X.drop o).take cs.length).length =cs.length:=by simp only [List.length_take,List.length_drop];omega
  generalize (X.drop o).take cs.length=M at *
  generalize X.drop (o+cs.length)=Z at *
  rw [e1, ←l1,List.take_left, ←List.drop_drop,List.drop_left, ←l2,List.drop_left]
  simp only [List.append_assoc]
theorem Mn {α:Type} [Inhabited α] {l l':List α} {i:Int} {x x':α} {e:α→List C} {N o off base:Nat} {c0 c1 cs pre post:List C} (hc0:c0=pre++(l.flatMap e++post)) (hb:pre.length=base) (hc1:c1=pre++(l'.flatMap e++post)) (hl:l'=l.set i.toNat x') (hx:idx l i=some x) (hN: ∀ y,(e y).length =N)
 (hoff:off=base+(i.toNat*N+o)) (ho:o+cs.length≤N) (hx':(e x).take o++(cs++(e x).drop (o+cs.length))=e x'):off+cs.length≤c0.length∧c0.take off++cs++c0.drop (off+cs.length)=c1:=by
 subst hc0 hc1 hl hb
 exact vV hx hN hoff ho hx'
end Go.PL
namespace Go.PL
open Go Go.RowKit
def slots:Nat→Nat→List (Nat×V)→List V
 | 0,_,_=>[]
 | n+1,i,[]=> .undef ::slots n (i+1) []
 | n+1,i,(j,v)::l=>match Nat.beq i j with
   | true=>v::slots n (i+1) l
   | false=> .undef ::slots n (i+1) ((j,v)::l)
def V.isDef:V→Bool
 | .undef =>false
 | _=>true
def uT (st st':St):St:=⟨Ue (st'.tm.map V.isDef) st.tm,st.so.filter (fun e=>st'.so.any fun e'=>e'.id==e.id),Ue (st'.gh.map V.isDef) st.gh,st.pre⟩
def vW (st st':St):Bool:=Nat.beq st'.tm.length st.tm.length&&Nat.beq st'.gh.length st.gh.length
theorem oF {st st':St} (hl:vW st st'=true):Cb st (uT st st'):=by
 simp only [vW,Bool.and_eq_true]at hl
 have a:=(m8 (m:=st'.tm.map V.isDef) (l:=st.tm) (by simpa using Nat.eq_of_beq_eq_true hl.1) rfl).get
 have b:=(m8 (m:=st'.gh.map V.isDef) (l:=st.gh) (by simpa using Nat.eq_of_beq_eq_true hl.2) rfl).get
 exact⟨a.1,a.2,fun _ he=>(List.mem_filter.1 he).1,fun hn=>List.Sublist.nodup (List.Sublist.map (fun d:AM=>d.id) List.filter_sublist) hn,b,rfl⟩
def Oz (st st':St):Option St:=match vW st st' with
 | true=>some (uT st st')
 | false=>none
theorem Cb.t {st st':St} (h:Oz st st'=some st'):Cb st st':=by
 unfold Oz at h
 split at h
 ·rename_i hl
  injection h with h
  have q:=oF hl
  rw [h]at q
  exact q
 ·cases h
def fH (o:Option (List Prop×St)) (st':St):Option (List Prop×St):=
 match o with
 | some (cs,st)=>match Oz st st' with
   | some s=>some (cs,s)
   | none=>none
 | none=>none
theorem kg {o:Option (List Prop×St)} {st':St} {cs:List Prop} (h:fH o st'=some (cs,st')): ∃ st,o=some (cs,st)∧Cb st st':=by
 unfold fH at h
 split at h
 ·rename_i cs' st
  split at h
  ·rename_i s hs
   simp only [Option.some.injEq,Prod.mk.injEq]at h
   obtain⟨rfl,rfl⟩:=h
   exact⟨st,rfl,Cb.t hs⟩
  ·cases h
 ·cases h
section
variable {P:Program} {F:Fr} {st:St}
theorem Aj.rg {id:Nat} {l:List Oper} {c:Code} {Q:Exit→St→Prop} {ss:List Stp} {cs:List Prop} (st':St) (hr:fH (HM P F.I false l.toArray l ss st) st'=some (cs,st')) (hl:Bb cs) (h:Aj P F c st' Q):Aj P F (.seq (.region id l.toArray false) c) st Q:=by
 obtain⟨st1,h1,h2⟩:=kg hr
 exact Aj.seq (Aj.reg h1 hl (Aj.less h2 h))
end
abbrev vI (n:Int):V:= .c (.int .i64 n)
abbrev vB (b:Bool):V:= .c (.bool b)
abbrev vS (s:List UInt8):V:= .c (.str s)
abbrev vP (i:AC) (o:Nat):V:= .c (.ptr i o)
abbrev vO (i:AC):V:= .c (.osl i)
abbrev vL {α:Type} (e:α→List C) (l:List α):V:= .c (.sl l.length (l.flatMap e))
abbrev vX {α:Type} (e:α→List C) (l:List α) (o:Nat):V:= .c (.iptr (l.flatMap e) o)
abbrev vA {α:Type} (e:α→List C) (x:α):V:= .agg (e x)
abbrev bx (i:AC) (cs:List C):AM:=⟨i,none,cs,false⟩
abbrev BA {α:Type} (i:AC) (E N:Nat) (e:α→List C) (l:List α):AM:=⟨i,some (E,N,l.length),l.flatMap e,true⟩
end Go.PL
namespace Go.PL
theorem gT {p:Bool} (h:p=true):(p==true)=true:=by subst h;rfl
theorem gF {p:Bool} (h:p=false):(p==false)=true:=by subst h;rfl
theorem gA {p q:Bool} (h:p=true) (k:q=true):(p&&q)=true:=by subst h;subst k;rfl
end Go.PL
namespace Go.PL
open Go Go.RowKit
def St.setCell (st:St) (i:AC) (j:Nat) (c:C):St:={st with so:=st.so.map fun e=>if e.id==i&& !e.pu then⟨e.id,e.row,e.cs.set j c,false⟩else e}
def St.nilAt (st:St) (i:AC) (j:Nat):Bool:=
 match st.look i with
 | some e=> !e.pu&&(match e.cs[j]? with
   | some .nils =>true
   | _=>false)
 | none=>false
theorem Pe {w:World} {G:Bj}: ∀ {cs:List C} {b o j:Nat} {c:C},Au w G cs b o→(∀ v d,cs[j]? =some d→Ap w G d v→Ap w G c v)→Au w G (cs.set j c) b o
 | [],_,_,_,_,h,_=>by simpa using h
 | d::cs,b,o,0,c,h,hc=>by
   simp only [Au]at h
   simp only [List.set_cons_zero,Au]
   obtain⟨⟨v,h1,h2⟩,h3⟩:=h
   exact⟨⟨v,h1,hc v d (by simp) h2⟩,h3⟩
 | d::cs,b,o,j+1,c,h,hc=>by
   simp only [Au]at h
   simp only [List.set_cons_succ,Au]
   exact⟨h.1,Pe h.2 (fun v d hd=>hc v d (by simpa using hd))⟩
theorem R.setCell {F:Fr} {st:St} {a:Act} {w:World} {G:Bj} (h:R F st a w G) {i k:AC} {j:Nat} (hn:st.nilAt i j=true) (hk:G.own k=some (.slice none 0 0)):R F (st.setCell i j (.osl k)) a w G:={
 dfr:=h.dfr,size:=h.size,slots:=h.slots,ghosts:=h.ghosts
 store:=by
  intro e' he'
  simp only [St.setCell,List.mem_map]at he'
  obtain⟨e,he,rfl⟩:=he'
  split
  ·rename_i hc
   simp only [Bool.and_eq_true,beq_iff_eq,Bool.not_eq_true']at hc
   have hE:=h.store e he
   have hee: ∃ x,st.look i=some x∧x=e:=by
    unfold St.nilAt at hn
    cases hl:st.look i with
    | none=>rw [hl]at hn;cases hn
    | some x=>
      refine⟨x,rfl,?_⟩
      obtain⟨hm,hid⟩:=B6 hl
      have hp:=List.pairwise_map.1 h.nodup
      rcases List.mem_iff_getElem.1 hm with ⟨p,hp1,rfl⟩
      rcases List.mem_iff_getElem.1 he with ⟨q,hq1,rfl⟩
      rcases Nat.lt_trichotomy p q with z | z | z
      ·exact absurd (hid.trans hc.1.symm) (List.pairwise_iff_getElem.1 hp p q hp1 hq1 z)
      ·subst z;rfl
      ·exact absurd (hc.1.trans hid.symm) (List.pairwise_iff_getElem.1 hp q p hq1 hp1 z)
   obtain⟨x,hx,rfl⟩:=hee
   have hnil:x.cs[j]? =some .nils :=by
    unfold St.nilAt at hn
    rw [hx]at hn
    simp only [Bool.and_eq_true]at hn
    have:=hn.2
    split at this
    ·assumption
    ·cases this
   have hc': ∀ v d,x.cs[j]? =some d→Ap w G d v→Ap w G (.osl k) v:=by
    intro v d hd hr
    rw [hnil]at hd
    injection hd with hd;subst hd
    simp only [Ap]at hr ⊢
    subst hr
    exact⟨hk,rfl⟩
   unfold BQ at hE ⊢
   simp only
   split at hE
   ·rename_i hrn
    obtain⟨b,h1,hbx⟩:=hE
    obtain⟨T,cur,h2,h3,h4⟩:=hbx.cells (VD hx hrn)
    exact⟨b,h1, .inr ⟨T,cur,h2,by simpa using h3,Pe h4 hc'⟩⟩
   ·obtain⟨hl,v,h1,h2⟩:=hE
    refine⟨by simpa using hl,v,h1,?_⟩
    rcases h2 with h2 | ⟨b,cap,cur,e1,e2,e3,e4,e5,e6,e7⟩
    ·exact .inl h2
    ·exact .inr ⟨b,cap,cur,e1,e2,e3,e4,e5,e6,Pe e7 hc'⟩
  ·exact h.store e he
 deep:=by
  intro e' he'
  simp only [St.setCell,List.mem_map]at he'
  obtain⟨e,he,rfl⟩:=he'
  split
  ·rename_i hc
   simp only [Bool.and_eq_true,beq_iff_eq,Bool.not_eq_true']at hc
   exact⟨(h.deep e he).1,fun hq=>absurd ((h.deep e he).2 hq).1 (by simp [hc.2])⟩
  ·exact h.deep e he
 pures:=by
  intro e' he'
  simp only [St.setCell,List.mem_map]at he'
  obtain⟨e,he,rfl⟩:=he'
  split
  ·intro hq;cases hq
  ·exact h.pures e he
 nodup:=by
  have:((st.setCell i j (.osl k)).so.map (·.id))=st.so.map (·.id):=by
   simp only [St.setCell,List.map_map]
   apply List.map_congr_left
   intro d _
   simp only [Function.comp]
   split<;>rfl
  rw [this];exact h.nodup
 inj:=h.inj,lt:=h.lt,new:=h.new,wr:=h.wr,avlt:=h.avlt,inv:=h.inv,avold:=h.avold,os:=h.os,tape:=h.tape,output:=h.output,hsize:=h.hsize,ext:=h.ext}
def kh (st:St) (i:AC) (j:Nat) (k:AC) (E n:Nat):Option St:=
 match (st.new ⟨k,some (E,n,0),[],true⟩).nilAt i j with
 | true=>some ((st.new ⟨k,some (E,n,0),[],true⟩).setCell i j (.osl k))
 | false=>none
theorem Aj.own {P:Program} {F:Fr} {c:Code} {st:St} {Q:Exit→St→Prop} (i:AC) (j:Nat) (k:AC) (E n:Nat) (st':St) (h:kh st i j k E n=some st') (hh:Aj P F c st' Q):Aj P F c st Q:=by
 unfold kh at h
 split at h
 ·rename_i hn
  injection h with h;subst h
  intro a w G hR
  have h1:=hR.nilRow k E n
  exact hh a w _ (h1.setCell hn (by simp [CX]))
 ·cases h
end Go.PL
namespace Go.PL
open Go
theorem Af {x:Int} (h0: -9223372036854775808≤x) (h1:x≤9223372036854775807):Ac x=x:=by
 unfold Ac;rw [IntKind.wrap_i64];omega
theorem WH {x:Int} (h0:0≤x) (h1:x≤18446744073709551615):IntKind.u64.wrap x=x:=by
 unfold IntKind.wrap
 simp only [IntKind.bits,IntKind.signed,Bool.false_and]
 simp
 omega
theorem oG {x:Int} (h0:0≤x) (h1:x≤255):IntKind.u8.wrap x=x:=by
 unfold IntKind.wrap
 simp only [IntKind.bits,IntKind.signed,Bool.false_and]
 simp
 omega
theorem Ae (x:Int):0≤IntKind.u64.wrap x∧IntKind.u64.wrap x≤18446744073709551615:=by
 unfold IntKind.wrap
 simp only [IntKind.bits,IntKind.signed,Bool.false_and]
 simp
 omega
section
variable {σ ρ:Type} {B:σ→Option (σ⊕ρ)}
theorem ne {n:Nat} {s s':σ} (h:B s=some (.inl s')):iter B (n+1) s=iter B n s':=by simp [iter,h]
theorem WJ {n:Nat} {s:σ} {r:ρ} (h:B s=some (.inr r)):iter B (n+1) s=some r:=by simp [iter,h]
end
section
variable {α:Type} [Inhabited α] {l:List α} {i:Int}
theorem fI (h:0≤i∧i<l.length):idx l i=some (l.getD i.toNat default):=if_pos h
theorem tz (o:Option α):gd true o=o:=if_pos rfl
end
theorem fJ {α:Type} {b:Nat} {l m:List α} (h:(l.length+m.length)*b≤140737488355328∧l.length+m.length≤maxLen):app b l m=some (l++m):=if_pos h
theorem fK {a b:List UInt8} (h:a.length+b.length≤maxLen):cat a b=some (a++b):=if_pos h
theorem Sk {p:Prop} [Decidable p] (h:p):need p=some ():=if_pos h
def tA (n:Int):UInt8:=UInt8.ofNat (48+(n.toNat % 10))
theorem cu (k u:Nat) (h:u<10 ^ (k+1)):(Lib.decDigits u).length ≤k+1:=by
 induction k generalizing u with
 | zero=>rw [Lib.decDigits,dif_pos (by omega)];simp
 | succ k ih=>
   rw [Lib.decDigits]
   split
   ·simp
   ·have:=ih (u / 10) (by rw [Nat.pow_succ]at h;omega)
    simp;omega
theorem fL {u:Int} (h0:0≤u):Lib.decDigits u.toNat=(if u / 10=0 then [] else Lib.decDigits (u / 10).toNat)++[tA u]:=by
 conv=>lhs;rw [Lib.decDigits]
 by_cases h:u.toNat<10
 ·rw [dif_pos h,if_pos (by omega),tA,Nat.mod_eq_of_lt h];rfl
 ·have e:u.toNat / 10=(u / 10).toNat :=by omega
  rw [dif_neg h,if_neg (by omega),tA,e]
def oH (u:Int) (s:List UInt8):Option ((Int×(List UInt8))⊕((List UInt8))):=
 (if(decide ((0:Int)<u))=true then
  (need (∀ n∈([IntKind.u8.wrap (IntKind.u64.wrap ((48:Int)+(Int.tmod u (10:Int))))]:List (Int)),0≤n∧n<256)).bind fun _=>
  (cat (HN ([IntKind.u8.wrap (IntKind.u64.wrap ((48:Int)+(Int.tmod u (10:Int))))]:List (Int))) s).bind fun s12=>
  some (.inl ((IntKind.u64.wrap (Int.tdiv u (10:Int))),s12))
 else
  some (.inr s))
def kj (a0:Int):Option ((List UInt8)):=
 (need (∀ n∈([IntKind.u8.wrap (IntKind.u64.wrap ((48:Int)+(Int.tmod a0 (10:Int))))]:List (Int)),0≤n∧n<256)).bind fun _=>
 (iter (fun(v:Int×(List UInt8))=>oH v.1 v.2) FU ((IntKind.u64.wrap (Int.tdiv a0 (10:Int))),(HN ([IntKind.u8.wrap (IntKind.u64.wrap ((48:Int)+(Int.tmod a0 (10:Int))))]:List (Int))))).bind (fun o0=>some o0)
theorem nf {u:Int} (h0:0≤u) (h1:u≤18446744073709551615):IntKind.u8.wrap (IntKind.u64.wrap ((48:Int)+(Int.tmod u (10:Int))))=48+((u.toNat % 10:Nat):Int):=by
 have e:Int.tmod u 10=((u.toNat % 10:Nat):Int):=by
  rw [Int.tmod_eq_emod_of_nonneg h0];omega
 rw [e,WH (by omega) (by omega),oG (by omega) (by omega)]
theorem ng {u:Int} (h0:0≤u) (h1:u≤18446744073709551615):IntKind.u64.wrap (Int.tdiv u (10:Int))=u / 10:=by
 rw [Int.tdiv_eq_ediv_of_nonneg h0,WH (by omega) (by omega)]
theorem fM {u:Int} (h0:0≤u) (h1:u≤18446744073709551615): ∀ n∈([IntKind.u8.wrap (IntKind.u64.wrap ((48:Int)+(Int.tmod u (10:Int))))]:List (Int)),0≤n∧n<256:=by
 rw [nf h0 h1]
 intro n hn
 simp at hn
 omega
theorem Z5 {u:Int} (h0:0≤u) (h1:u≤18446744073709551615):HN ([IntKind.u8.wrap (IntKind.u64.wrap ((48:Int)+(Int.tmod u (10:Int))))]:List (Int))=[tA u]:=by
 rw [nf h0 h1]
 simp only [HN,tA,List.map_cons,List.map_nil]
 congr 2
theorem tB {u:Int} {s:List UInt8} (h0:0<u) (h1:u≤18446744073709551615) (hs:s.length≤1000):oH u s=some (.inl (u / 10,tA u::s)):=by
 unfold oH
 rw [if_pos (by simpa using h0),Sk (fM (by omega) h1),Z5 (by omega) h1,fK (by simp [maxLen];omega),ng (by omega) h1]
 rfl
theorem fN (s:List UInt8):oH 0 s=some (.inr s):=by simp [oH]
theorem fO: ∀ (k:Nat) (u:Int) (s:List UInt8) (N:Nat),0≤u→u<10 ^ k→u≤18446744073709551615→s.length+k≤1000→k<N→
 iter (fun(v:Int×(List UInt8))=>oH v.1 v.2) N (u,s)=some ((if u=0 then [] else Lib.decDigits u.toNat)++s)
 | 0,u,s,N+1,h0,h1,h2,hs,hN=>by
   obtain rfl:u=0:=by simp at h1;omega
   rw [WJ (r:=s) (fN s)];rfl
 | k+1,u,s,N+1,h0,h1,h2,hs,hN=>by
   by_cases hu:u=0
   ·subst hu;rw [WJ (r:=s) (fN s)];rfl
   ·rw [ne (s':=(u / 10,tA u::s)) (tB (by omega) h2 (by show s.length≤1000;omega)),fO k (u / 10) (tA u::s) N (by omega) (by rw [Int.pow_succ]at h1;omega) (by omega) (by simp;omega) (by omega)]
    rw [if_neg hu]
    congr 1
    rw [fL (u:=u) h0,List.append_assoc];rfl
theorem oI {u:Int} (h0:0≤u) (h1:u≤18446744073709551615):kj u=some (Lib.decDigits u.toNat):=by
 unfold kj
 rw [Sk (fM h0 h1),Z5 h0 h1,ng h0 h1]
 simp only [Option.bind_some]
 rw [fO 20 (u / 10) [tA u] FU (by omega) (by omega) (by omega) (by simp) (by simp [FU])]
 simp only [Option.bind_some]
 congr 1
 exact(fL h0).symm
end Go.PL
namespace Go.PL
open Go Go.RowKit Go.WideShapes Go.ChangeShapes
def Cp (k:IntKind) (v:Int):Prop:=(Lit.int k v).wf =true
def cv (_:Bool):Prop:=True
def uU (v:List UInt8):Prop:=v.length≤reachBytes
def YF {α:Type} (b:Nat) (ok:α→Prop) (l:List α):Prop:=l.length*b≤reachBytes∧ ∀ y∈l,ok y
section
variable {P:Program} {t e:TypeId} {n:Nat} {cs:List C}
theorem dI {k:IntKind} (hu:P.underlying t=some (.int k)) (h:Bh P n t cs): ∃ z,cs=eI k z∧Cp k z:=ot hu h
theorem dB (hu:P.underlying t=some .bool) (h:Bh P n t cs): ∃ b,cs=eB b∧cv b:=jP hu h
theorem dS (hu:P.underlying t=some .string) (h:Bh P n t cs): ∃ s,cs=eS s∧uU s:=ou hu h
theorem dL {α:Type} {enc:α→List C} {ok:α→Prop} {b:Nat} (hu:P.underlying t=some (.slice e)) (hb:P.bytesOf e=b) (hd: ∀ {n ds},Bh P n e ds→ ∃ x,ds=enc x∧ok x) (h:Bh P n t cs):
 ∃ l:List α,cs=eL enc l∧YF b ok l:=p7 hu hb (fun _ _=>hd) h
theorem dA {α:Type} {m:Nat} {enc:α→List C} {ok:α→Prop} (hu:P.underlying t=some (.array m e)) (hd: ∀ {n ds},Bh P n e ds→ ∃ x,ds=enc x∧ok x) (h:Bh P n t cs):
 ∃ l:List α,l.length=m∧cs=l.flatMap enc∧ ∀ y∈l,ok y:=by
 cases n with
 | zero=>exact h.elim
 | succ n=>
   simp only [Bh,hu]at h
   obtain⟨dss,rfl,h2,h3⟩:=h
   obtain⟨l,rfl,h5⟩:=Wv (fun _=>hd) h3
   exact⟨l,by simpa using h2,by rw [List.flatMap_def],h5⟩
end
section
variable {R:TypeId→List C→Prop}
theorem Aq {t:TypeId} {ts:List TypeId} {α β:Type} {e:α→List C} {E:β→List C} {ok:α→Prop} {OK:β→Prop} (hd: ∀ {ds},R t ds→ ∃ x,ds=e x∧ok x) (hr: ∀ {dss},R9 R ts dss→ ∃ y,dss.flatten=E y∧OK y) {dss:List (List C)} (h:R9 R (t::ts) dss):
 ∃ p:α×β,dss.flatten=e p.1++E p.2∧ok p.1∧OK p.2:=by
 simp only [R9]at h
 obtain⟨ds,r,rfl,h1,h2⟩:=h
 obtain⟨x,rfl,h3⟩:=hd h1
 obtain⟨y,h4,h5⟩:=hr h2
 exact⟨(x,y),by rw [List.flatten_cons,h4],h3,h5⟩
theorem El {dss:List (List C)} (h:R9 R [] dss): ∃ _:Unit,dss.flatten=[]∧True:=by
 simp only [R9]at h
 subst h
 exact⟨(),rfl,trivial⟩
end
section
variable {H:Type} {enc:TypeId×Value→H} {P:Program} {W:World} {spare:Nat→Bool} {r:Reach} {base:Nat} {t:TypeId} {v:Value} {d:DataW H} {ps:List MemPlace}
theorem Pf {ts:List TypeId} {ds:List (DataW H)} (h:(DataW.weightsEach P (t::ts) (d::ds)).all (· ≤reachBytes)=true):(d.weights P t).all (· ≤reachBytes)=true∧(DataW.weightsEach P ts ds).all (· ≤reachBytes)=true:=by
 simpa only [DataW.weightsEach,List.all_append,Bool.and_eq_true] using h
theorem nh {α:Type} {e:α→List C} {ok:α→Prop} {fs:Array Field} (k:Nat) (hk:sV P k t=true) (hu:P.underlying t=some (.struct fs)) (hd: ∀ {n cs},Bh P n t cs→ ∃ x,cs=e x∧ok x)
 (hv:Value.okWide P W r base t v) (h:DataW.Trod enc P W 0 spare true t v d ps) (hw:(d.weights P t).all (· ≤reachBytes)=true): ∃ x,ok x∧Ak W (im fun _=>False) (vA e x) v:=by
 obtain⟨arr,rfl,_⟩:=okWide_struct hu hv
 obtain⟨fuel,h⟩:=h
 obtain⟨cs,h1,h2,_⟩:=JT (G:=im fun _=>False) (fun _ _ h=>h) k t hk fuel _ _ h hw
 obtain⟨x,rfl,h4⟩:=hd h2
 exact⟨x,h4,by simp only [Ak];exact⟨arr,rfl,h1⟩⟩
theorem tC {α:Type} {e:α→C} {ok:α→Prop} (k:Nat) (hk:sV P k t=true) (hd: ∀ {n cs},Bh P n t cs→ ∃ x,cs=[e x]∧ok x)
 (hc:v.cells.toList=[v]) (h:DataW.Trod enc P W 0 spare true t v d ps) (hw:(d.weights P t).all (· ≤reachBytes)=true): ∃ x,ok x∧Ak W (im fun _=>False) (.c (e x)) v:=by
 obtain⟨fuel,h⟩:=h
 obtain⟨cs,h1,h2,_⟩:=JT (G:=im fun _=>False) (fun _ _ h=>h) k t hk fuel _ _ h hw
 obtain⟨x,rfl,h4⟩:=hd h2
 rw [hc]at h1
 simp only [At]at h1
 exact⟨x,h4,by simp only [Ak];exact h1.1⟩
theorem vY {α:Type} {e:α→List C} {ok:List α→Prop} {u:TypeId} (n:Nat) (hk:sV P n t=true) (hu:P.underlying t=some (.slice u)) (hd: ∀ {n cs},Bh P n t cs→ ∃ x,cs=eL e x∧ok x)
 (hv:Value.okWide P W r base t v) (h:DataW.Trod enc P W 0 spare true t v d ps) (hw:(d.weights P t).all (· ≤reachBytes)=true): ∃ x,ok x∧Ak W (im fun _=>False) (vL e x) v:=by
 obtain⟨a,len,cap,rfl⟩:=okWide_slice hu hv
 exact tC (e:=fun x:List α=> .sl x.length (x.flatMap e)) n hk hd rfl h hw
end
end Go.PL
namespace Go.PL
open Go
def W {α:Type} (o:Option α) (Q:α→Prop):Prop:= ∃ r,o=some r∧Q r
def LQ {σ ρ:Type} (I:σ→Prop) (m:σ→Nat) (s:σ) (K:ρ→Prop):σ⊕ρ→Prop:=Sum.elim (fun s'=>I s'∧m s'<m s) K
section
variable {α β σ ρ:Type} {o:Option α} {P Q':α→Prop} {f:α→Option β} {Q:β→Prop} {v:α} {g c:Bool}
theorem W.bd (h:W o P) (k: ∀ x,P x→W (f x) Q):W (o.bind f) Q:=by
 obtain⟨r,rfl,h2⟩:=h;exact k r h2
theorem W.lt (k: ∀ x,x=v→W (f x) Q):W ((some v).bind f) Q:=k v rfl
theorem W.rt {v:β} (h:Q v):W (some v) Q:=⟨v,rfl,h⟩
theorem W.if {a b:Option β} (k1:c=true→W a Q) (k2:c=false→W b Q):W (if c=true then a else b) Q:=by
 cases c
 ·exact k2 rfl
 ·exact k1 rfl
theorem W.imp {Q2:α→Prop} (h:W o P) (k: ∀ x,P x→Q2 x):W o Q2:=by obtain⟨r,h1,h2⟩:=h;exact⟨r,h1,k r h2⟩
theorem W.gb [Inhabited α] (h:g=true→W o P) (k: ∀ x,(g=true→P x)→W (f x) Q):W ((gd g o).bind f) Q:=by
 cases g
 ·exact k default (fun h=>by cases h)
 ·obtain⟨r,h1,h2⟩:=h rfl
  rw [tz,h1]
  exact k r (fun _=>h2)
theorem Qd [Inhabited α] {l:List α} {i:Nat} (h:i<l.length):l.getD i default∈l:=by
 rw [List.getD_eq_getElem?_getD,List.getElem?_eq_getElem h]
 exact List.getElem_mem h
theorem W.idx [Inhabited α] {l:List α} {i:Int} (h:0≤i∧i<l.length):W (idx l i) (fun e=>e∈l∧e=l.getD i.toNat default∧idx l i=some e):=
 ⟨_,fI h,Qd (by omega),rfl,fI h⟩
theorem W.re (h:o=some v) (k:W (f v) Q):W (o.bind f) Q:=by subst h;exact k
theorem W.app {b:Nat} {l m:List α} (h:(l.length+m.length)*b≤140737488355328) (h2:l.length+m.length≤maxLen):W (app b l m) (fun e=>e=l++m):=⟨_,fJ ⟨h,h2⟩,rfl⟩
theorem W.cat {a b:List UInt8} (h:a.length+b.length≤9223372036854775807):W (cat a b) (fun e=>e=a++b∧e.length=a.length+b.length):=⟨_,fK (by unfold maxLen;omega),rfl,List.length_append⟩
theorem W.need {p:Prop} [Decidable p] (h:p):W (need p) (fun _=>True):=⟨_,Sk h,trivial⟩
theorem W.nx {I:σ→Prop} {m:σ→Nat} {s s':σ} {K:ρ→Prop} (h:I s') (h2:m s'<m s):W (some (.inl s':σ⊕ρ)) (LQ I m s K):=⟨_,rfl,h,h2⟩
theorem W.ex {I:σ→Prop} {m:σ→Nat} {s:σ} {K:ρ→Prop} {r:ρ} (h:K r):W (some (.inr r:σ⊕ρ)) (LQ I m s K):=⟨_,rfl,h⟩
theorem qz {B:σ→Option (σ⊕ρ)} {I:σ→Prop} {m:σ→Nat} {K:ρ→Prop} (hs: ∀ s,I s→W (B s) (LQ I m s K)): ∀ (n:Nat) (s:σ),I s→m s<n→W (iter B n s) K
 | 0,_,_,h=>by omega
 | n+1,s,hI,hm=>by
   obtain⟨x,h1,h2⟩:=hs s hI
   cases x with
   | inl s'=>rw [ne h1];exact qz hs n s' h2.1 (by have:=h2.2;omega)
   | inr r=>rw [WJ h1];exact⟨r,rfl,h2⟩
theorem W.it {B:σ→Option (σ⊕ρ)} {f:ρ→Option β} {s0:σ} (I:σ→Prop) (m:σ→Nat) (h0:I s0) (hm:m s0<9223372036854775807) (hs: ∀ s,I s→W (B s) (LQ I m s (fun r=>W (f r) Q))):W ((iter B FU s0).bind f) Q:=by
 obtain⟨r,h1,h2⟩:=qz hs FU s0 h0 hm
 rw [h1]
 exact h2
end
theorem W.sidx {l:List UInt8} {i:Int} (h:0≤i∧i<l.length):W (sidx l i) (fun e=>0≤e∧e<256):=by
 refine⟨_,if_pos h,?_,?_⟩
 ·omega
 ·have:=(l.getD i.toNat 0).toNat_lt
  omega
theorem W.ssub {l:List UInt8} {i j:Int} (h:0≤i∧i≤j∧j≤l.length):W (ssub l i j) (fun e=>(e.length:Int)=j - i):=by
 refine⟨_,if_pos h,?_⟩
 simp only [List.length_take,List.length_drop]
 omega
theorem yZ {p:Prop} [Decidable p] {b:Bool}:((if p then true else b)=true)=(p∨b=true):=by by_cases h:p<;>simp [h]
theorem y4 {p:Prop} [Decidable p] {b:Bool}:((if p then true else b)=false)=(¬p∧b=false):=by by_cases h:p<;>simp [h]
theorem y5 {p:Prop} [Decidable p] {b:Bool}:((if p then b else false)=true)=(p∧b=true):=by by_cases h:p<;>simp [h]
theorem y6 {p:Prop} [Decidable p] {b:Bool}:((if p then b else false)=false)=(¬p∨b=false):=by by_cases h:p<;>simp [h]
theorem y7 {a:Bool}:((!a)=true)=(a=false):=by cases a<;>simp
theorem y8 {a:Bool}:((!a)=false)=(a=true):=by cases a<;>simp
theorem y9 {p:Prop} [Decidable p]:(decide p=true)=p:=by simp
theorem za {p:Prop} [Decidable p]:(decide p=false)= ¬p:=by simp
theorem zb {a b:Int}:((a==b)=true)=(a=b):=by simp
theorem zc {a b:Int}:((a==b)=false)= ¬(a=b):=by simp
theorem xy {a b:Int}:((a != b)=true)= ¬(a=b):=by simp
theorem xz {a b:Int}:((a != b)=false)=(a=b):=by simp
theorem xA {a:Bool}:((a==true)=true)=(a=true):=by cases a<;>simp
theorem xB {a:Bool}:((a==true)=false)=(a=false):=by cases a<;>simp
theorem xC {a:Bool}:((a==false)=true)=(a=false):=by cases a<;>simp
theorem xD {a:Bool}:((a==false)=false)=(a=true):=by cases a<;>simp
theorem xE {a b:Bool}:((a&&b)=true)=(a=true∧b=true):=by cases a<;>simp
theorem xF {a b:Bool}:((a&&b)=false)=(a=false∨b=false):=by cases a<;>simp
theorem xG {a b:List UInt8}:((a==b)=true)=(a=b):=by simp
theorem xH {a b:List UInt8}:((a==b)=false)= ¬(a=b):=by simp
theorem xI {a b:List UInt8}:((a != b)=true)= ¬(a=b):=by simp
theorem xJ {a b:List UInt8}:((a != b)=false)=(a=b):=by simp
theorem xK {a:Bool}:(¬(a=true))=(a=false):=by cases a<;>simp
theorem xL {a:Bool}:(¬(a=false))=(a=true):=by cases a<;>simp
theorem xM {p q:Prop}:(¬(p∨q))=(¬p∧ ¬q):=propext not_or
theorem bz:(∀ {p:Prop} [Decidable p] {b:Bool},((if p then true else b)=true)=(p∨b=true))∧(∀ {p:Prop} [Decidable p] {b:Bool},((if p then true else b)=false)=(¬p∧b=false))∧(∀ {p:Prop} [Decidable p] {b:Bool},((if p then b else false)=true)=(p∧b=true))∧(∀ {p:Prop} [Decidable p] {b:Bool},((if p then b else false)=false)=(¬p∨b=false))∧(∀ {a:Bool},((!a)=true)=(a=false))∧(∀ {a:Bool},((!a)=false)=(a=true))∧(∀ {p:Prop} [Decidable p],(decide p=true)=p)∧(∀ {p:Prop} [Decidable p],(decide p=false)= ¬p)∧(∀ {a b:Int},((a==b)=true)=(a=b))∧(∀ {a b:Int},((a==b)=false)= ¬(a=b))∧(∀ {a b:Int},((a != b)=true)= ¬(a=b))∧(∀ {a b:Int},((a != b)=false)=(a=b))∧(∀ {a:Bool},((a==true)=true)=(a=true))∧(∀ {a:Bool},((a==true)=false)=(a=false))∧(∀ {a:Bool},((a==false)=true)=(a=false))∧(∀ {a:Bool},((a==false)=false)=(a=true))∧(∀ {a b:Bool},((a&&b)=true)=(a=true∧b=true))∧(∀ {a b:Bool},((a&&b)=false)=(a=false∨b=false))∧(∀ {a b:List UInt8},((a==b)=true)=(a=b))∧(∀ {a b:List UInt8},((a==b)=false)= ¬(a=b))∧(∀ {a b:List UInt8},((a != b)=true)= ¬(a=b))∧(∀ {a b:List UInt8},((a != b)=false)=(a=b))∧(∀ {a:Bool},(¬(a=true))=(a=false))∧(∀ {a:Bool},(¬(a=false))=(a=true))∧(∀ {p q:Prop},(¬(p∨q))=(¬p∧ ¬q)):=⟨@yZ, @y4, @y5, @y6, @y7, @y8, @y9, @za, @zb, @zc, @xy, @xz, @xA, @xB, @xC, @xD, @xE, @xF, @xG, @xH, @xI, @xJ, @xK, @xL, @xM⟩
def Fx (s:List UInt8):Prop:=s.length≤140737488355328
def B5 {α:Type} (b:Nat) (lk:α→Prop) (l:List α):Prop:=l.length*b≤140737488355328∧ ∀ y∈l,lk y
def IR {α:Type} (_:α):Prop:=True
theorem ni {α:Type} {b:Nat} {lk:α→Prop} {l:List α} (hb:1≤b) (h:B5 b lk l):l.length≤140737488355328:=by
 have h1:=h.1
 have:l.length*1≤l.length*b:=Nat.mul_le_mul_left _ hb
 omega
theorem WK {s:List UInt8} (h:uU s):Fx s:=by unfold uU reachBytes at h;unfold Fx;omega
theorem CQ {α:Type} {b:Nat} {ok lk:α→Prop} {l:List α} (k: ∀ y,ok y→lk y) (h:YF b ok l):B5 b lk l:=⟨by have:=h.1;unfold reachBytes at this;omega,fun y hy=>k y (h.2 y hy)⟩
theorem Bp {α:Type} {b:Nat} {lk:α→Prop} {l:List α} {e:α} (h:B5 b lk l) (he:e∈l):lk e:=h.2 e he
theorem G6 {α:Type} {b:Nat} {lk:α→Prop}:B5 b lk ([]:List α):=⟨by simp,by simp⟩
theorem BT {l:List (List UInt8)} {n:Nat} (h2: ∀ y∈l,y.length≤n) (h:l.length≤8796093022207) (hn:n≤140737488355328):B5 16 Fx l:=⟨by omega,fun y hy=>Nat.le_trans (h2 y hy) hn⟩
theorem Eb {α:Type} {p:α→Prop} {l m:List α} (h: ∀ y∈l,p y) (h2: ∀ y∈m,p y): ∀ y∈l++m,p y:=fun y hy=>(List.mem_append.1 hy).elim (h y) (h2 y)
theorem Ec {α:Type} {p:α→Prop} {x:α} (h:p x): ∀ y∈[x],p y:=fun y hy=>by
 rw [List.mem_singleton]at hy;exact hy▸h
theorem qA {i:Int} (h:0≤i∧i≤16):Ac ((1:Int)*2 ^ (min i.toNat (IntKind.i64).bits)) ≠ 0:=by
 have:i=0∨i=1∨i=2∨i=3∨i=4∨i=5∨i=6∨i=7∨i=8∨i=9∨i=10∨i=11∨i=12∨i=13∨i=14∨i=15∨i=16:=by omega
 rcases this with rfl | rfl | rfl | rfl | rfl | rfl | rfl | rfl | rfl | rfl | rfl | rfl | rfl | rfl | rfl | rfl | rfl<;>decide
end Go.PL
namespace Go.PL
open Go
set_option linter.all false
section
variable {α:Type} [Inhabited α] [DecidableEq α] {l m:List α} {B:Int→Option (Int⊕(Unit⊕Unit))}
end
section
variable {α:Type} [Inhabited α] [DecidableEq α] {l m:List α} {B:Int→Option (Int⊕(Unit⊕Unit))}
end
abbrev T {α:Type} (o:Option α):Prop:= ∃ r,o=some r
end Go.PL
namespace Go.PL
set_option linter.all false
theorem Z6 {α:Type} {p q:α→Bool}: ∀ {l:List α},(∀ x∈l,p x=true→q x=true)→(∃ x∈l,q x=true∧p x=false)→(l.filter p).length <(l.filter q).length
 | [],_,h=>by obtain⟨x,hx,_⟩:=h;cases hx
 | a::l,h,hx=>by
   have hle: ∀ {m:List α},(∀ x∈m,p x=true→q x=true)→(m.filter p).length ≤(m.filter q).length :=by
    intro m
    induction m with
    | nil=>intro _;simp
    | cons b m ih=>
      intro hm
      have:=ih (fun x hx=>hm x (by simp [hx]))
      rw [List.filter_cons,List.filter_cons]
      have hb:=hm b (by simp)
      cases hp:p b<;>cases hq:q b<;>simp_all
      omega
   obtain⟨x,hx,hq,hp⟩:=hx
   rw [List.filter_cons,List.filter_cons]
   rcases List.mem_cons.1 hx with rfl | hx
   ·rw [if_neg (by simp [hp]),if_pos hq]
    have:=hle (m:=l) (fun y hy=>h y (by simp [hy]))
    simp;omega
   ·have ih:=Z6 (l:=l) (fun y hy=>h y (by simp [hy])) ⟨x,hx,hq,hp⟩
    have ha:=h a (by simp)
    cases hpa:p a
    ·rw [if_neg (by simp)]
     split<;>simp<;>omega
    ·rw [if_pos rfl,if_pos (ha hpa)]
     simp;omega
theorem qB {α:Type} (μ:α→Nat): ∀ (l:List α),l ≠ []→ ∃ k∈l, ∀ n∈l,μ k≤μ n
 | [],h=>absurd rfl h
 | [a],_=>⟨a,by simp,fun n hn=>by simp at hn;subst hn;exact Nat.le_refl _⟩
 | a::b::l,_=>by
   obtain⟨k,hk,hm⟩:=qB μ (b::l) (by simp)
   rcases Nat.le_total (μ a) (μ k)with q | q
   ·exact⟨a,by simp,fun n hn=>by
     rcases List.mem_cons.1 hn with rfl | hn
     ·exact Nat.le_refl _
     ·exact Nat.le_trans q (hm n hn)⟩
   ·exact⟨k,by simp [List.mem_cons.1 hk],fun n hn=>by
     rcases List.mem_cons.1 hn with rfl | hn
     ·exact q
     ·exact hm n hn⟩
theorem fP {α:Type} [DecidableEq α] (l:List α) (hne:l ≠ []) (need:α→α→Prop) (out:α→List α)
 (hclosed: ∀ i∈l, ∀ x,(x=i∨x∈out i)→ ∀ y∈l,need x y→y∈out i)
 (hmin: ∀ i∈l, ∀ S:α→Prop,(∀ x,(x=i∨S x)→ ∀ y∈l,need x y→S y)→ ∀ x∈out i,S x):
 ∃ k∈l, ∀ n∈l,n ≠ k→need k n→k∈out n:=by
 obtain⟨k,hk,hm⟩:=qB (fun i=>(l.filter fun x=>decide (x=i∨x∈out i)).length) l hne
 refine⟨k,hk,fun n hn hnk hneed=>?_⟩
 have h1:n∈out k:=hclosed k hk k (.inl rfl) n hn hneed
 have h2: ∀ x∈out n,x∈out k:=hmin n hn (fun x=>x∈out k) (fun x hx y hy hxy=>by
  rcases hx with rfl | hx
  ·exact hclosed k hk x (.inr h1) y hy hxy
  ·exact hclosed k hk x (.inr hx) y hy hxy)
 by_cases hc:k∈out n
 ·exact hc
 ·exfalso
  have:=hm n hn
  have hlt:=Z6 (l:=l) (p:=fun x=>decide (x=n∨x∈out n)) (q:=fun x=>decide (x=k∨x∈out k)) (fun x _ hx=>by
   simp only [decide_eq_true_eq]at hx ⊢
   rcases hx with rfl | hx
   ·exact .inr h1
   ·exact .inr (h2 x hx)) ⟨k,hk,by simp,by simp [Ne.symm hnk,hc]⟩
  omega
end Go.PL
namespace Go.PL
open Go Go.RowKit
theorem aC {p:Prop} {l:List Prop} (h:p) (k:Bb l):Bb (p::l):=⟨h,k⟩
theorem aN:Bb []:=trivial
abbrev sl (n:Nat) (l:List (Nat×V)) (so:List AM):St:=⟨slots n 0 l,so,[],[]⟩
abbrev sg (n:Nat) (l:List (Nat×V)) (so:List AM) (m:Nat) (g:List (Nat×V)) (p:AC):St:=⟨slots n 0 l,so,slots m 0 g,p⟩
theorem lT {st st':St} (h:Oz st st'=some st':=by kernel_rfl):Cb st st':=Cb.t h
def Sl:List AC→Bool
 | []=>true
 | i::l=> !(l.contains i)&&Sl l
theorem Mo: ∀ {l:List AC},Sl l=true→l.Nodup
 | [],_=>by simp
 | i::l,h=>by
   simp only [Sl,Bool.and_eq_true,Bool.not_eq_true']at h
   refine List.nodup_cons.2 ⟨fun hm=>?_,Mo h.2⟩
   have:=List.contains_iff_mem.2 hm
   rw [h.1]at this;cases this
theorem Cb.trans {a b c:St} (h:Cb a b) (k:Cb b c):Cb a c where
 len:=k.len.trans h.len
 tm:=fun i=>by
  rcases k.tm i with q | q
  ·exact .inl q
  ·rw [q];exact h.tm i
 so:=fun e he=>h.so e (k.so e he)
 nd:=fun hn=>k.nd (h.nd hn)
 gh:=⟨k.gh.1.trans h.gh.1,fun i=>by
  rcases k.gh.2 i with q | q
  ·exact .inl q
  ·rw [q];exact h.gh.2 i⟩
 pre:=k.pre.trans h.pre
def St.ids (st:St):List AC:=st.so.map (·.id)
theorem lU {st st':St} (hn:Sl st'.ids=true:=by kernel_rfl) (h:Oz (kf st'.ids st) st'=some st':=by kernel_rfl):Cb st st':=(Sh _ (Mo hn) st).trans (Cb.t h)
section
variable {P:Program} {F:Fr} {st:St} {id:Nat} {l:List Oper} {c:Code} {Q:Exit→St→Prop} {cs:List Prop} {K:St→Prop}
theorem Rg (ss:List Stp) (st':St) (hl:Bb cs) (h:Aj P F c st' Q) (hr:fH (HM P F.I false l.toArray l ss st) st'=some (cs,st'):=by kernel_rfl):Aj P F (.seq (.region id l.toArray false) c) st Q:=Aj.rg st' hr hl h
theorem Re (ss:List Stp) (st':St) (hl:Bb cs) (h:Q .normal st') (hr:HM P F.I false l.toArray l ss st=some (cs,st'):=by kernel_rfl):Aj P F (.region id l.toArray false) st Q:=Aj.reg hr hl h
theorem Rp {I:World→Prop} {ops:Array Oper} (n:Nat) (ss:List Stp) (st':St) (hc:Bb cs) (hK:CI P I ops (l.drop n) st' K) (h:HM P I false ops (l.take n) ss st=some (cs,st'):=by kernel_rfl):CI P I ops l st K:=Run.part n st' h hc hK
theorem Ls (st':St) (h:Aj P F c st' Q) (hl:Oz st st'=some st':=by kernel_rfl):Aj P F c st Q:=Aj.less (Cb.t hl) h
theorem Ow (i:AC) (j:Nat) (k:AC) (E n:Nat) (st':St) (hh:Aj P F c st' Q) (h:kh st i j k E n=some st':=by kernel_rfl):Aj P F c st Q:=Aj.own i j k E n st' h hh
theorem bE {rs:List ResultVar} {e:Exit} {r':V} (v r:V) (hr:r=r') (he:e= .normal ∨e= .ret :=by first | exact .inr rfl | exact .inl rfl) (h:YL P st rs=some v:=by kernel_rfl) (hs:qw st rs v=r:=by kernel_rfl) (hp:r.pure=true:=by kernel_rfl):
 (e= .normal ∨e= .ret)∧(C5 P st rs).1∧(C5 P st rs).2.pure =true∧(C5 P st rs).2=r':=m7 he h hs hp hr
theorem bQ {rs:List ResultVar} {e:Exit} {r':V} (v:V) (hr:v=r') (he:e= .normal ∨e= .ret :=by first | exact .inr rfl | exact .inl rfl) (h:YL P st rs=some v:=by kernel_rfl) (hs:qw st rs v=v:=by kernel_rfl) (hp:v.pure=true:=by kernel_rfl):
 (e= .normal ∨e= .ret)∧(C5 P st rs).1∧(C5 P st rs).2.pure =true∧(C5 P st rs).2=r':=m7 he h hs hp hr
end
theorem Tn {K:St→Prop} {Q:Exit→St→Prop} {st:St} (h:K st):BO K Q .normal st:=h
theorem Tr {K:St→Prop} {Q:Exit→St→Prop} {st:St} (h:Q .ret st):BO K Q .ret st:=h
theorem gi (g:Bool):g=true→g=true:=id
theorem g1 (g:Bool):g=true→Bb [g=true→g=true]:=fun _=>⟨id,trivial⟩
theorem g2 (g:Bool):g=true→Bb [g=true→g=true,g=true→g=true]:=fun _=>⟨id,id,trivial⟩
section
variable {l:List Prop}
theorem aB {e b:Bool} (h:some e=some b) (k:Bb l):Bb ((vB e=vB b)::l):=⟨congrArg vB (sI h),k⟩
theorem aT (b:Bool) (k:Bb l):Bb ((b=true→(b==true)=true)::l):=⟨fun q=>gT q,k⟩
theorem aF (b:Bool) (k:Bb l):Bb ((b=false→(b==false)=true)::l):=⟨fun q=>gF q,k⟩
theorem aG (g:Bool) (k:Bb l):Bb ((g=true→Bb [g=true→g=true])::l):=⟨g1 g,k⟩
theorem aH (g:Bool) (k:Bb l):Bb ((g=true→Bb [g=true→g=true,g=true→g=true])::l):=⟨g2 g,k⟩
end
section
variable {α:Type} [Inhabited α] {g:Bool} {o:Option α} {x:α} {p:Prop}
theorem c0 (h:gd g o=some x) (k:o=some x→p):g=true→Bb []∧p:=fun hg=>⟨trivial,k (U7 h hg)⟩
theorem c1 (h:gd g o=some x) (k:o=some x→p):g=true→Bb [g=true→g=true]∧p:=fun hg=>⟨⟨id,trivial⟩,k (U7 h hg)⟩
theorem c2 (h:gd g o=some x) (k:o=some x→p):g=true→Bb [g=true→g=true,g=true→g=true]∧p:=fun hg=>⟨⟨id,id,trivial⟩,k (U7 h hg)⟩
theorem c3 (h:gd g o=some x) (k:o=some x→p):g=true→Bb [g=true→g=true,g=true→g=true,g=true→g=true]∧p:=fun hg=>⟨⟨id,id,id,trivial⟩,k (U7 h hg)⟩
end
theorem U9 (k:IntKind): ∀ x,(eI k x).length =1:=fun _=>rfl
theorem lenB': ∀ x,(eB x).length =1:=fun _=>rfl
theorem cw: ∀ x,(eS x).length =1:=fun _=>rfl
theorem xN {α:Type} (e:α→List C): ∀ x,(eL e x).length =1:=fun _=>rfl
section
variable {α:Type} [Inhabited α] {l m r:List α} {i:Int} {x:α} {e:α→List C} {N:Nat}
theorem Pg (hx:idx l i=some x) (hN: ∀ y,(e y).length =N) (o n:Nat) (ag:Bool) (v:V) (hv:toV ag o n (e x)=v:=by kernel_rfl) (ho:Nat.ble (o+n) N=true:=by kernel_rfl) (h0:(ag||Nat.blt 0 n)=true:=by kernel_rfl):
 i.toNat*N+o+n≤(l.flatMap e).length ∧toV ag (i.toNat*N+o) n (l.flatMap e)=v:=
 cr hx hN rfl (Nat.le_of_ble_eq_true ho) (by simpa using h0) hv
omit [Inhabited α] in
theorem Z7 {b:Nat} (h:app b l m=some r) (e:α→List C):l.length+m.length=r.length∧l.flatMap e++m.flatMap e=r.flatMap e:=⟨by rw [WE h,List.length_append],by rw [WE h,List.flatMap_append]⟩
end
end Go.PL
namespace Go.PL
open Go Go.RowKit
def vZ (st:St) (e:AM):St:={st with so:=ZG e (st.so.filter (fun x=>x.id != e.id&& !(EX e.id&&JM x.id)))}
theorem Qe {id:AC} {v:V} (h:v.men id=false):Gl id v=v:=by unfold Gl;rw [if_neg (by simp [h])]
theorem Sm {id:AC}: ∀ {l:List V},(∀ v∈l,v.men id=false)→l.map (Gl id)=l
 | [],_=>rfl
 | v::l,h=>by rw [List.map_cons,Qe (h v (by simp)),Sm (fun x hx=>h x (by simp [hx]))]
theorem fQ {id:AC}: ∀ {l:List C},Ck id l=false→l.map (Gk id)=l
 | [],_=>rfl
 | c::l,h=>by
   simp only [Ck,Bool.or_eq_false_iff]at h
   rw [List.map_cons,fQ h.2,Gk,if_neg (by simp [h.1])]
def AM.fre (id:AC) (e:AM):Bool:=e.pu|| !Ck id e.cs
theorem AM.kill_eq {id:AC} {e:AM} (h:e.fre id=true):e.kill id=e:=by
 obtain⟨i,r,cs,pu⟩:=e
 cases pu
 ·simp only [AM.fre,Bool.false_or,Bool.not_eq_true']at h
  simp only [AM.kill,fQ h]
 ·rfl
theorem v6 {st:St} {e:AM} (h1: ∀ v∈st.tm,v.men e.id=false) (h2: ∀ x∈st.so,x.id=e.id∨x.fre e.id=true) (h3: ∀ v∈st.gh,v.men e.id=false) (h4:e.fre e.id=true):st.new e=vZ st e:=by
 have a:(st.so.filter (fun x=>x.id != e.id&& !(EX e.id&&JM x.id))).map (AM.kill e.id)=st.so.filter (fun x=>x.id != e.id&& !(EX e.id&&JM x.id)):=by
  have: ∀ l:List AM,(∀ x∈l,x.id=e.id∨x.fre e.id=true)→(l.filter (fun x=>x.id != e.id&& !(EX e.id&&JM x.id))).map (AM.kill e.id)=l.filter (fun x=>x.id != e.id&& !(EX e.id&&JM x.id)):=by
   intro l
   induction l with
   | nil=>intro _;rfl
   | cons x l ih=>
     intro hl
     simp only [List.filter_cons]
     split
     ·rename_i hx
      rw [List.map_cons,ih (fun y hy=>hl y (by simp [hy]))]
      rcases hl x (by simp)with q | q
      ·simp [q]at hx
      ·rw [AM.kill_eq q]
     ·exact ih (fun y hy=>hl y (by simp [hy]))
  exact this _ h2
 unfold St.new vZ St.kill
 simp only [a,Sm h1,Sm h3,AM.kill_eq h4]
def uV (P:Program) (st:St) (s:Stp) (o:Oper):Option (List Prop×AM×V):=
 match o.guard,o.dst,s with
 | none,some d, .a =>match o.op with
   | .alloc T=>match TY P T with
     | some cs=>some ([],⟨d::st.pre,none,cs,false⟩, .c (.ptr (d::st.pre) 0))
     | none=>none
   | .box _ x=>match (Bc st true x).2.cells with
     | some cs=>some ((Bc st true x).1,⟨d::st.pre,none,cs,false⟩, .c (.ptr (d::st.pre) 0))
     | none=>none
   | .assign (.const (.slice none 0 0))=>match Eo P o.type with
     | some (E,n)=>some ([],⟨d::st.pre,some (E,n,0),[],true⟩, .c (.osl (d::st.pre)))
     | none=>none
   | .buildSlice t len ps=>match EC P t with
     | some (E,n,_)=>match L8 P E with
       | some z=>match HD (fun i=>some (i*n,n)) (Cl z len) ((HK st true ps.toList).2.map TZ)with
         | some cs=>match z.length==n&&Nat.blt 0 n&&Nat.ble (len*n) (2 ^ 24)&&AH cs with
           | true=>some ((HK st true ps.toList).1++[],⟨d::st.pre,some (E,n,len),cs,true⟩, .c (.osl (d::st.pre)))
           | false=>none
         | none=>none
       | none=>none
     | none=>none
   | _=>none
 | none,some d, .e len cs=>match o.op with
   | .makeSlice t l c=>match (Bc st true l).2,(Bc st true c).2,EC P t with
     | .c (.int _ l'), .c (.int _ c'),some (E,n,by')=>match L8 P E with
       | some z=>match z.length==n&&Nat.blt 0 n with
         | true=>some (((Bc st true l).1++(Bc st true c).1)++([l'.toNat=len∧Cl z l'.toNat=cs]++[0≤l'∧l'≤c'∧c'*by'≤140737488355328∧c'≤maxLen]),⟨d::st.pre,some (E,n,len),cs,true⟩, .c (.osl (d::st.pre)))
         | false=>none
       | none=>none
     | _,_,_=>none
   | _=>none
 | _,_,_=>none
theorem fR {P:Program} {I:World→Prop} {st:St} {s:Stp} {ops:Array Oper} {o:Oper} {l:List Prop} {e:AM} {v:V} (h:uV P st s o=some (l,e,v)):
 IQ P I false ops o s st=some (l,(st.new e).put o.dst v):=by
 obtain⟨dst,op,ty,pos,aft,gd⟩:=o
 unfold uV at h
 split at h
 ·rename_i d h1 h2
  simp only at h1 h2
  subst h1 h2
  split at h
  ·rename_i T hT
   simp only at hT;subst hT
   split at h
   ·rename_i cs hz
    simp only [Option.some.injEq,Prod.mk.injEq]at h
    obtain⟨rfl,rfl,rfl⟩:=h
    simp only [IQ,HL,Cf,qp,hz]
   ·cases h
  ·rename_i T x hT
   simp only at hT;subst hT
   split at h
   ·rename_i cs hz
    simp only [Option.some.injEq,Prod.mk.injEq]at h
    obtain⟨rfl,rfl,rfl⟩:=h
    simp only [IQ,HL,Cf,qp,hz]
   ·cases h
  ·rename_i hT
   simp only at hT;subst hT
   split at h
   ·rename_i E n hz
    simp only [Option.some.injEq,Prod.mk.injEq]at h
    obtain⟨rfl,rfl,rfl⟩:=h
    simp only [IQ,HL,Cf,qp,hz]
   ·cases h
  ·rename_i t len ps hT
   simp only at hT;subst hT
   split at h
   ·rename_i E n b h1
    split at h
    ·rename_i z h2
     split at h
     ·rename_i cs h3
      split at h
      ·rename_i hb
       simp only [Option.some.injEq,Prod.mk.injEq]at h
       obtain⟨rfl,rfl,rfl⟩:=h
       simp only [IQ,HL,Cf,qp,tv,h1,h2,h3,hb,j6]
      ·cases h
     ·cases h
    ·cases h
   ·cases h
  ·cases h
 ·rename_i d len cs h1 h2
  simp only at h1 h2
  subst h1 h2
  split at h
  ·rename_i t l c hT
   simp only at hT;subst hT
   split at h
   ·rename_i E n b h1 h2 h3
    split at h
    ·rename_i z h4
     split at h
     ·rename_i hb
      simp only [Option.some.injEq,Prod.mk.injEq]at h
      obtain⟨rfl,rfl,rfl⟩:=h
      simp only [IQ,HL,Cf,qp,m6,h1,h2,h3,h4,hb,j6]
     ·cases h
    ·cases h
   ·cases h
  ·cases h
 ·cases h
theorem qC {P:Program} {st:St} {s:Stp} {o:Oper} {r:List Prop×AM×V} (h:uV P st s o=some r): ∀ x,s ≠ .D x:=by
 intro x hx
 subst hx
 unfold uV at h
 split at h
 ·rename_i q;cases q
 ·rename_i q;cases q
 ·cases h
theorem nj {P:Program} {I:World→Prop} {dr:Bool} {ops:Array Oper} {o:Oper} {s:Stp} {st:St} (h: ∀ x,s ≠ .D x):IQ P I dr ops o s st=HL P I dr ops o s st:=by
 cases s<;>first | rfl | exact absurd rfl (h _)
theorem v7 {P:Program} {st:St} {s:Stp} {o:Oper} {l:List Prop} {e:AM} {v:V} (h:uV P st s {o with guard:=none}=some (l,e,v)):
 Cf o.op= .ef ∧qp P st s o=some (l,(st.new e).put o.dst v):=by
 have hs:=fR (I:=fun _=>True) (ops:= #[]) h
 obtain⟨dst,op,ty,pos,aft,gd⟩:=o
 have hk:Cf op= .ef :=by
  unfold uV at h
  split at h
  ·split at h
   all_goals first
    | (rename_i hT;simp only at hT;subst hT;rfl)
    | (cases h;done)
  ·split at h
   all_goals first
    | (rename_i hT;simp only at hT;subst hT;rfl)
    | (cases h;done)
  ·cases h
 refine⟨hk,?_⟩
 rw [nj (qC h)]at hs
 unfold HL at hs
 simp only [hk]at hs
 exact hs
def zd (P:Program) (st:St) (s:Stp) (ops:Array Oper) (o:Oper):Option (List Prop×AM×V):=
 match o.guard with
 | none=>uV P st s o
 | some (j,want)=>match uV P st s {o with guard:=none}with
   | some (l,e,v)=>match G4 st ops j want with
     | some g=>some (l++[g=true],e,v)
     | none=>none
   | none=>none
theorem qD {P:Program} {I:World→Prop} {st:St} {s:Stp} {ops:Array Oper} {o:Oper} {l:List Prop} {e:AM} {v:V} (h:zd P st s ops o=some (l,e,v)):
 IQ P I false ops o s st=some (l,(st.new e).put o.dst v):=by
 unfold zd at h
 split at h
 ·exact fR h
 ·rename_i j want hg
  split at h
  ·rename_i l1 e1 v1 h1
   split at h
   ·rename_i g hq
    simp only [Option.some.injEq,Prod.mk.injEq]at h
    obtain⟨rfl,rfl,rfl⟩:=h
    obtain⟨hk,he⟩:=v7 h1
    rw [nj (qC h1)]
    unfold HL
    simp only [hg,hq,hk,he]
   ·cases h
  ·cases h
structure RD where
 tm:List (List (Nat×V)×V)
 so:List (List (Nat×AM)×Option AM)
 gh:List V
 pre:AC
def tD (f:Nat→Bool):List (Nat×V)→V→V
 | [],u=>u
 | (i,v)::ws,u=>tD f ws (cond (f i) v u)
def tE (f:Nat→Bool):List (Nat×AM)→Option AM→Option AM
 | [],u=>u
 | (i,v)::ws,u=>tE f ws (cond (f i) (some v) u)
def RD.st (d:RD) (f:Nat→Bool):St:=⟨d.tm.map (fun x=>tD f x.1 x.2),d.so.filterMap (fun x=>tE f x.1 x.2),d.gh,d.pre⟩
theorem fS {id:AC} {f:Nat→Bool} {dead:Nat→Bool} (hd: ∀ j,dead j=true→f j=false): ∀ {ws:List (Nat×V)} {u:V},(ws.all fun y=>dead y.1|| !y.2.men id)=true→u.men id=false→(tD f ws u).men id=false
 | [],u,_,h=>h
 | (i,v)::ws,u,h,hu=>by
   simp only [List.all_cons,Bool.and_eq_true,Bool.or_eq_true,Bool.not_eq_true']at h
   show (tD f ws (cond (f i) v u)).men id=false
   refine fS (ws:=ws) hd h.2 ?_
   cases hf:f i
   ·exact hu
   ·rcases h.1 with q | q
    ·rw [hd i q]at hf;cases hf
    ·exact q
theorem fT {id:AC} {f:Nat→Bool} {dead:Nat→Bool} (hd: ∀ j,dead j=true→f j=false): ∀ {ws:List (Nat×AM)} {u:Option AM},(ws.all fun y=>dead y.1||(y.2.id==id||y.2.fre id))=true→(∀ e,u=some e→e.id=id∨e.fre id=true)→ ∀ e,tE f ws u=some e→e.id=id∨e.fre id=true
 | [],u,_,h=>h
 | (i,v)::ws,u,h,hu=>by
   simp only [List.all_cons,Bool.and_eq_true,Bool.or_eq_true,beq_iff_eq]at h
   show ∀ e,tE f ws (cond (f i) (some v) u)=some e→_
   refine fT (ws:=ws) hd h.2 ?_
   intro e he
   cases hf:f i
   ·rw [hf]at he;exact hu e he
   ·rw [hf]at he
    simp only [cond_true,Option.some.injEq]at he
    subst he
    rcases h.1 with q | q
    ·rw [hd i q]at hf;cases hf
    ·exact q
def qE (id:AC):Option AM→Bool
 | some e=>e.id==id||e.fre id
 | none=>true
def RD.free (d:RD) (id:AC) (dead:Nat→Bool):Bool:=
 d.tm.all (fun x=>x.1.all (fun y=>dead y.1|| !y.2.men id)&& !x.2.men id)&&
 (d.so.all (fun x=>x.1.all (fun y=>dead y.1||(y.2.id==id||y.2.fre id))&&qE id x.2)&&d.gh.all (fun v=> !v.men id))
theorem RD.free_spec {d:RD} {id:AC} {dead f:Nat→Bool} (hd: ∀ j,dead j=true→f j=false) (h:d.free id dead=true):
 (∀ v∈(d.st f).tm,v.men id=false)∧(∀ x∈(d.st f).so,x.id=id∨x.fre id=true)∧(∀ v∈(d.st f).gh,v.men id=false):=by
 simp only [RD.free,Bool.and_eq_true,List.all_eq_true]at h
 refine⟨fun v hv=>?_,fun x hx=>?_,fun v hv=>?_⟩
 ·simp only [RD.st,List.mem_map]at hv
  obtain⟨y,h1,rfl⟩:=hv
  have:=h.1 y h1
  simp only [Bool.and_eq_true,Bool.not_eq_true']at this
  exact fS hd (List.all_eq_true.2 this.1) this.2
 ·simp only [RD.st,List.mem_filterMap]at hx
  obtain⟨y,h1,h2⟩:=hx
  have:=h.2.1 y h1
  refine fT hd (List.all_eq_true.2 this.1) (fun e he=>?_) x h2
  have:=this.2
  rw [he]at this
  simpa [qE] using this
 ·have:=h.2.2 v hv
  simpa using this
def qF (P:Program) (I:World→Prop) (ops:Array Oper) (ss:List Stp) (ids:List AC) (d:RD) (dead f:Nat→Bool) (i:Nat):Option (List Prop×St):=
 match ops[i]?,ss[i]? with
 | some o,some s=>match zd P (d.st f) s ops o with
   | some (l,e,v)=>match d.free e.id dead&&e.fre e.id with
     | true=>some (l,kf ids ((vZ (d.st f) e).put o.dst v))
     | false=>none
   | none=>match IQ P I false ops o s (d.st f)with
     | some (c,st')=>some (c,kf ids st')
     | none=>none
 | _,_=>none
theorem kk {P:Program} {I:World→Prop} {ops:Array Oper} {ss:List Stp} {ids:List AC} {d:RD} {dead f:Nat→Bool} {i:Nat} {r:List Prop×St} (hd: ∀ j,dead j=true→f j=false) (h:qF P I ops ss ids d dead f i=some r):
 fF P I ops ss ids (d.st f) i=some r:=by
 unfold qF at h
 unfold fF
 split at h
 ·rename_i o s h1 h2
  try simp only [h1,h2]
  split at h
  ·rename_i l e v h3
   split at h
   ·rename_i hb
    simp only [Bool.and_eq_true]at hb
    obtain⟨a,b,c⟩:=RD.free_spec (f:=f) hd hb.1
    rw [qD h3,v6 a b c hb.2]
    exact h
   ·cases h
  ·exact h
 ·cases h
def JU:List Nat→Nat→Bool
 | [],_=>false
 | x::l,j=>cond (Nat.beq x j) true (JU l j)
theorem HO: ∀ {l:List Nat} {j:Nat},JU l j=true↔j∈l
 | [],j=>by simp [JU]
 | x::l,j=>by
   simp only [JU,List.mem_cons]
   cases h:Nat.beq x j
   ·simp only [cond_false,HO (l:=l)]
    have:x ≠ j:=fun e=>by subst e;simp at h
    exact⟨.inr,fun q=>q.resolve_left (fun e=>this e.symm)⟩
   ·simp only [cond_true,true_iff]
    exact .inl (Nat.eq_of_beq_eq_true h).symm
def uW:List Nat→List Bool→Nat→Option Bool
 | e::es,b::bs,j=>cond (Nat.beq e j) (some b) (uW es bs j)
 | _,_,_=>none
theorem VL (f:Nat→Bool): ∀ (E:List Nat) (j:Nat),uW E (E.map f) j=if j∈E then some (f j)else none
 | [],j=>rfl
 | e::E,j=>by
   simp only [List.map_cons,uW,VL f E j,List.mem_cons]
   cases h:Nat.beq e j
   ·have:j ≠ e:=fun q=>by subst q;simp at h
    simp [this]
   ·have:=Nat.eq_of_beq_eq_true h
    subst this
    simp
def yz (pr:List (List Nat)) (E:List Nat) (mb:List Bool) (i:Nat) (b:Nat→Bool):Nat→Bool:=fun j=>
 cond (Nat.beq j i) false (cond (JU (pr.getD j []) i) false (match uW E mb j with
  | some x=>x
  | none=>cond (JU (pr.getD i []) j) true (b j)))
def tF (f:Nat→Bool) (i:Nat):Nat→Bool:=fun j=>cond (Nat.beq j i) true (f j)
def qG (pr:List (List Nat)) (i:Nat):Nat→Bool:=fun j=>cond (Nat.beq j i) true (JU (pr.getD j []) i)
def oJ (pr:List (List Nat)) (E:List Nat) (mb:List Bool) (N:Nat):List Nat:=
 (List.range N).filter fun i=>(match uW E mb i with
  | some true=>false
  | _=>true)&&(pr.getD i []).all fun j=>match uW E mb j with
    | some false=>false
    | _=>true
def kl (ops:Array Oper) (i:Nat):List Nat:=match ops[i]? with
 | some o=>(o.after.toList.filter (Region.binds .any)).map (·.on)
 | none=>[]
def qH (ops:Array Oper) (pr:List (List Nat)):Bool:=
 (List.range ops.size).all fun i=>(kl ops i).all (fun j=>Nat.blt j i&&JU (pr.getD i []) j)&&(pr.getD i []).all fun j=>JU (kl ops i) j||(kl ops i).any fun k=>JU (pr.getD k []) j
def tG (pr:List (List Nat)) (E:List Nat) (ms:List (List Bool)) (N:Nat):Bool:=
 ms.contains (E.map fun _=>false)&&ms.all fun mb=>(oJ pr E mb N).all fun i=>ms.contains (E.map fun j=>cond (Nat.beq j i) true ((uW E mb j).getD false))
def xO (P:Program) (I:World→Prop) (ops:Array Oper) (ss:List Stp) (ids:List AC) (d:RD) (pr:List (List Nat)) (E:List Nat) (ms:List (List Bool)) (b:Nat→Bool):List (Option (List Prop×St)):=
 ms.flatMap fun mb=>(oJ pr E mb ops.size).map fun i=>qF P I ops ss ids d (qG pr i) (yz pr E mb i b) i
def uX (ops:Array Oper) (cs:List (List Prop)) (d:RD) (pr:List (List Nat)) (E:List Nat) (ms:List (List Bool)) (b:Nat→Bool):List (Option (List Prop×St)):=
 ms.flatMap fun mb=>(oJ pr E mb ops.size).map fun i=>some (cs.getD i [],d.st (tF (yz pr E mb i b) i))
def bv (v:List Bool):Nat→Bool:=fun j=>v.getD j false
theorem fU {α β:Type} {f g:α→Nat→β} {r:α→List Nat}: ∀ {l:List α},(l.flatMap fun n=>(r n).map (f n))=(l.flatMap fun n=>(r n).map (g n))→ ∀ n∈l, ∀ i∈r n,f n i=g n i
 | [],_,n,hn,_,_=>by simp at hn
 | a::l,h,n,hn,i,hi=>by
   simp only [List.flatMap_cons]at h
   have hh:=List.append_inj h (by simp)
   rcases List.mem_cons.1 hn with rfl | hn
   ·exact List.map_inj_left.1 hh.1 i hi
   ·exact fU hh.2 n hn i hi
section
variable {P:Program} {F:Fr} {ops:Array Oper}
theorem Z8 {v:List Bool} {i:Nat} (hv:v.length=ops.size) (h:i∈Region.ready .any ops v.toArray):i<ops.size∧bv v i=false∧ ∀ j∈kl ops i,bv v j=true:=by
 unfold Region.ready at h
 simp only [List.mem_filter,List.mem_range,Bool.and_eq_true,Bool.not_eq_true']at h
 obtain⟨h1,h2,h3⟩:=h
 refine⟨h1,?_,fun j hj=>?_⟩
 ·have:i<v.length:=by omega
  simp [Array.getD_eq_getD_getElem?,this]at h2
  simp [bv,List.getD_eq_getElem?_getD,this,h2]
 ·unfold kl at hj
  have ho:ops[i]? =some ops[i]:=Array.getElem?_eq_getElem h1
  rw [ho]at hj h3
  simp only [List.mem_map,List.mem_filter]at hj
  obtain⟨e,⟨he,hb⟩,rfl⟩:=hj
  simp only [Option.map_some,Option.getD_some,Array.all_eq_true_iff_forall_mem]at h3
  have:=h3 e (by simpa using he)
  simp only [hb,Bool.not_true,Bool.false_or]at this
  simp only [bv,List.getD_eq_getElem?_getD]
  simpa [Array.getD_eq_getD_getElem?] using this
theorem qI {v:List Bool} {pr:List (List Nat)} (hv:v.length=ops.size) (hp:qH ops pr=true) (h:Region.ready .any ops v.toArray=[]): ∀ i,i<ops.size→bv v i=true:=by
 intro i
 induction i using Nat.strongRecOn with
 | ind i ih=>
   intro hi
   cases hb:bv v i
   ·exfalso
    have:i∈Region.ready .any ops v.toArray:=by
     unfold Region.ready
     simp only [List.mem_filter,List.mem_range,Bool.and_eq_true,Bool.not_eq_true']
     refine⟨hi,?_,?_⟩
     ·have:i<v.length:=by omega
      simp only [bv,List.getD_eq_getElem?_getD,List.getElem?_eq_getElem this,Option.getD_some]at hb
      simp [Array.getD_eq_getD_getElem?,this,hb]
     ·have ho:ops[i]? =some ops[i]:=Array.getElem?_eq_getElem hi
      rw [ho]
      simp only [Option.map_some,Option.getD_some,Array.all_eq_true_iff_forall_mem]
      intro e he
      cases hbd:Region.binds .any e
      ·rfl
      ·have hd:e.on∈kl ops i:=by
        unfold kl;rw [ho]
        simp only [List.mem_map,List.mem_filter]
        exact⟨e,⟨by simpa using he,hbd⟩,rfl⟩
       simp only [qH,List.all_eq_true,List.mem_range,Bool.and_eq_true]at hp
       have hlt:=((hp i hi).1 _ hd).1
       simp only [Nat.blt_eq]at hlt
       have:=ih _ hlt (by omega)
       simp only [bv,List.getD_eq_getElem?_getD]at this
       simp only [Bool.not_true,Bool.false_or]
       simpa [Array.getD_eq_getD_getElem?] using this
    rw [h]at this;cases this
   ·rfl
theorem ze {pr:List (List Nat)} {E:List Nat} {ms:List (List Bool)} {ss:List Stp} {ids:List AC} {cs:List (List Prop)} {d:RD} {Q:Exit→St→Prop} (hids:ids.Nodup) (hp:qH ops pr=true) (hm:tG pr E ms ops.size=true)
 (hst: ∀ b,xO P F.I ops ss ids d pr E ms b=uX ops cs d pr E ms b) (hc:Qc cs) (hQ:Q .normal (d.st fun j=>Nat.blt j ops.size)):
 ∀ (fuel:Nat) (v:List Bool) (a:Act) (w:World) (G:Bj),v.length=ops.size→E.map (bv v)∈ms→(∀ i,bv v i=true→ ∀ j∈pr.getD i [],bv v j=true)→qy v≤fuel→R F (d.st (bv v)) a w G→
   wpAny P .any ops (fun e a' w'=> ∃ st' G',Q e st'∧R F st' a' w' G') fuel v.toArray a w:=by
 have fin: ∀ (v:List Bool) a w G,v.length=ops.size→Region.ready .any ops v.toArray=[]→R F (d.st (bv v)) a w G→ ∃ st' G',Q .normal st'∧R F st' a w G':=by
  intro v a w G hv hr hR
  have e:bv v=fun j=>Nat.blt j ops.size:=by
   funext j
   by_cases hj:j<ops.size
   ·rw [qI hv hp hr j hj];exact(by simpa using hj:Nat.blt j ops.size=true).symm
   ·have h1:bv v j=false:=by simp [bv,List.getD_eq_getElem?_getD,List.getElem?_eq_none (show v.length≤j by omega)]
    rw [h1]
    cases hb:Nat.blt j ops.size
    ·rfl
    ·simp at hb;omega
  rw [e]at hR
  exact⟨_,G,hQ,hR⟩
 intro fuel
 induction fuel with
 | zero=>
   intro v a w G hv hE hcl hu hR
   have hz:=fG _ (Nat.le_zero.1 hu)
   have hr:Region.ready .any ops v.toArray=[]:=by
    rcases hrr:Region.ready .any ops v.toArray with _ | ⟨i,r⟩
    ·rfl
    ·have:=Z8 hv (i:=i) (by rw [hrr];simp)
     rw [List.all_eq_true]at hz
     have hlt:i<v.length:=by omega
     have h2:=hz v[i] (List.getElem_mem hlt)
     have h3:=this.2.1
     simp only [bv,List.getD_eq_getElem?_getD,List.getElem?_eq_getElem hlt,Option.getD_some]at h3
     rw [h3]at h2;cases h2
   exact⟨hr,fin v a w G hv hr hR⟩
 | succ fuel ih=>
   intro v a w G hv hE hcl hu hR
   refine⟨fun hr=>fin v a w G hv hr hR,fun i hi=>?_⟩
   obtain⟨hlt,hf,hdir⟩:=Z8 hv hi
   have hp':=hp
   simp only [qH,List.all_eq_true,List.mem_range,Bool.and_eq_true,Bool.or_eq_true,List.any_eq_true,HO]at hp'
   have hpre: ∀ j∈pr.getD i [],bv v j=true:=by
    intro j hj
    rcases (hp' i hlt).2 j hj with q | ⟨k,hk,q⟩
    ·exact hdir j q
    ·exact hcl k (hdir k hk) j q
   have hsuc: ∀ j,i∈pr.getD j []→bv v j=false:=by
    intro j hj
    cases hb:bv v j
    ·rfl
    ·have:=hcl j hb i hj
     rw [hf]at this;cases this
   have hg:yz pr E (E.map (bv v)) i (bv v)=bv v:=by
    funext j
    unfold yz
    cases h1:Nat.beq j i
    ·simp only [cond_false]
     cases h2:JU (pr.getD j []) i
     ·simp only [cond_false,VL]
      split
      ·rename_i x hx
       split at hx
       ·simpa using hx.symm
       ·cases hx
      ·cases h3:JU (pr.getD i []) j
       ·rfl
       ·exact(hpre j (HO.1 h3)).symm
     ·exact(hsuc j (HO.1 h2)).symm
    ·rw [Nat.eq_of_beq_eq_true h1];exact hf.symm
   have hri:i∈oJ pr E (E.map (bv v)) ops.size:=by
    simp only [oJ,List.mem_filter,List.mem_range,Bool.and_eq_true,List.all_eq_true,VL]
    refine⟨hlt,?_,fun j hj=>?_⟩
    ·split
     ·rename_i hq
      split at hq
      ·simp only [Option.some.injEq]at hq;rw [hf]at hq;cases hq
      ·cases hq
     ·rfl
    ·split
     ·rename_i hq
      split at hq
      ·simp only [Option.some.injEq]at hq;rw [hpre j hj]at hq;cases hq
      ·cases hq
     ·rfl
   have hstep:=fU (r:=fun mb=>oJ pr E mb ops.size) (hst (bv v)) _ hE i hri
   rw [hg]at hstep
   have hdead: ∀ j,qG pr i j=true→bv v j=false:=by
    intro j hj
    unfold qG at hj
    cases h1:Nat.beq j i
    ·rw [h1]at hj;exact hsuc j (HO.1 hj)
    ·rw [Nat.eq_of_beq_eq_true h1];exact hf
   have hstep:=kk hdead hstep
   have hset:tF (bv v) i=bv (v.set i true):=by
    funext j
    unfold tF
    cases h1:Nat.beq j i
    ·have:i ≠ j:=fun e=>by subst e;simp at h1
     simp [bv,List.getD_eq_getElem?_getD,List.getElem?_set,this]
    ·have:=Nat.eq_of_beq_eq_true h1
     subst this
     simp [bv,List.getD_eq_getElem?_getD,show j<v.length by omega]
   unfold fF at hstep
   split at hstep
   ·rename_i o s ho hs
    split at hstep
    ·rename_i c st' hss
     simp only [Option.some.injEq,Prod.mk.injEq]at hstep
     obtain⟨hcc,hst'⟩:=hstep
     rw [hset]at hst'
     have hwp:=Qb (K:=fun s'=>Cb s' (d.st (bv (v.set i true)))) hss (hcc▸Si hc i) (hst'▸Sh ids hids st')
     have hw:=Z2 (Q:=fun e a' w'=> ∃ st' G',Q e st'∧R F st' a' w' G') hR hwp
     have hnext: ∀ a' w',oe F (fun s'=>Cb s' (d.st (bv (v.set i true)))) a' w'→wpAny P .any ops (fun e a' w'=> ∃ st' G',Q e st'∧R F st' a' w' G') fuel (v.toArray.setIfInBounds i true) a' w':=by
      intro a' w' ⟨s',G',hl,hR'⟩
      have hsa:v.toArray.setIfInBounds i true=(v.set i true).toArray :=by simp
      rw [hsa]
      refine ih (v.set i true) a' w' G' (by simpa using hv) ?_ ?_ ?_ (hR'.less hl)
      ·simp only [tG,Bool.and_eq_true,List.all_eq_true,List.contains_iff_mem]at hm
       have:=hm.2 _ hE i hri
       have e:(E.map fun j=>cond (Nat.beq j i) true ((uW E (E.map (bv v)) j).getD false))=E.map (bv (v.set i true)):=by
        refine List.map_congr_left (fun j hj=>?_)
        rw [←hset,VL,if_pos hj]
        rfl
       rwa [e]at this
      ·intro k hk j hj
       rw [←hset]at hk ⊢
       unfold tF at hk ⊢
       cases h1:Nat.beq j i
       ·simp only [cond_false]
        cases h2:Nat.beq k i
        ·rw [h2]at hk;exact hcl k hk j hj
        ·rw [Nat.eq_of_beq_eq_true h2]at hj;exact hpre j hj
       ·rfl
      ·have hb:v[i]? =some false:=by
        have hl:i<v.length:=by omega
        simp only [bv,List.getD_eq_getElem?_getD,List.getElem?_eq_getElem hl,Option.getD_some]at hf
        rw [List.getElem?_eq_getElem hl,hf]
       have:=ct _ i hb
       omega
     unfold wpOp
     rw [ho]
     simp only
     by_cases hwt:Region.wanted o (yielded ops a.tmps)=true
     ·rw [if_pos hwt]at hw ⊢
      exact .inl (Oper.wp_mono hnext hw)
     ·rw [if_neg hwt]at hw ⊢
      exact hnext _ _ hw
    ·cases hstep
   ·cases hstep
theorem Aj.regS {st:St} {rid:Nat} {l:List Oper} {Q:Exit→St→Prop} (h1:P.follows .mixedOrders =true) (pr:List (List Nat)) (E:List Nat) (ms:List (List Bool)) (ss:List Stp) (ids:List AC) (d:RD) (cs:List (List Prop)) (hc:Qc cs) (hQ:Q .normal (d.st fun j=>Nat.blt j l.toArray.size))
 (hids:Sl ids=true:=by kernel_rfl) (hp:qH l.toArray pr=true:=by kernel_rfl) (hm:tG pr E ms l.toArray.size=true:=by kernel_rfl) (h0:Oz st (d.st fun _=>false)=some (d.st fun _=>false):=by kernel_rfl)
 (hst: ∀ b,xO P F.I l.toArray ss ids d pr E ms b=uX l.toArray cs d pr E ms b:=by intro b;kernel_rfl):Aj P F (.region rid l.toArray true) st Q:=by
 intro a w G hR
 refine wp_region_any h1 ?_
 have hR':=(hR.less (Cb.t h0)).same (w':={w with drawn:=w.drawn+1}) ⟨rfl,rfl,rfl⟩ ⟨Nat.le_refl _,fun _ _=>rfl⟩
 have e0:bv (List.replicate l.toArray.size false)=fun _=>false:=by
  funext j
  simp only [bv,List.getD_eq_getElem?_getD,List.getElem?_replicate]
  split<;>rfl
 have key:=ze (P:=P) (ops:=l.toArray) (Q:=Q) (Mo hids) hp hm hst hc hQ l.toArray.size (List.replicate l.toArray.size false) a _ G (by simp) (by
  simp only [tG,Bool.and_eq_true,List.contains_iff_mem]at hm
  rw [e0];exact hm.1) (fun i hi=>by rw [e0]at hi;cases hi) (by simp [qy]) (by rw [e0];exact hR')
 simpa using key
end
def nk:Nat→Nat→List (Nat×List (Nat×V)×V)→List (List (Nat×V)×V)
 | 0,_,_=>[]
 | n+1,i,[]=>([], .undef)::nk n (i+1) []
 | n+1,i,(j,ws,v)::l=>match Nat.beq i j with
   | true=>(ws,v)::nk n (i+1) l
   | false=>([], .undef)::nk n (i+1) ((j,ws,v)::l)
theorem bC {l:List Prop} {ls:List (List Prop)} (h:Bb l) (k:Qc ls):Qc (l::ls):=⟨h,k⟩
theorem bN:Qc []:=trivial
end Go.PL
namespace Go.PL
open Go Go.RowKit
def Wk (st st':St):Prop:= ∀ (F:Fr) (a:Act) (w:World) (G:Bj),R F st a w G→ ∃ G',R F st' a w G'
theorem Wk.less {st st':St} (h:Cb st st'):Wk st st':=fun _ _ _ G hR=>⟨G,hR.less h⟩
theorem Wk.trans {a b c:St} (h:Wk a b) (k:Wk b c):Wk a c:=fun F x w G hR=>by
 obtain⟨G',q⟩:=h F x w G hR
 exact k F x w G' q
theorem Wk.frz (st:St) (id:AC):Wk st (st.freeze id):=fun _ _ _ _ hR=>by
 obtain⟨G',q,_⟩:=hR.freeze id
 exact⟨G',q⟩
theorem Wk.frzs: ∀ (ids:List AC) (st:St),Wk st (ids.foldl St.freeze st)
 | [],st=>Wk.less (Cb.refl st)
 | i::l,st=>(Wk.frz st i).trans (Wk.frzs l _)
theorem wT {st st':St} (h:Oz st st'=some st':=by kernel_rfl):Wk st st':=Wk.less (Cb.t h)
theorem wU {st st':St} (hn:Sl st'.ids=true:=by kernel_rfl) (h:Oz (kf st'.ids st) st'=some st':=by kernel_rfl):Wk st st':=Wk.less (lU hn h)
section
variable {P:Program} {F:Fr} {st:St}
theorem Aj.wk {c:Code} {st':St} {Q:Exit→St→Prop} (h:Wk st st') (hh:Aj P F c st' Q):Aj P F c st Q:=fun a w G hR=>by
 obtain⟨G',q⟩:=h F a w G hR
 exact hh a w G' q
theorem Fz (ids:List AC) (st':St) {c:Code} {Q:Exit→St→Prop} (hh:Aj P F c st' Q) (h:ids.foldl St.freeze st=st':=by kernel_rfl):Aj P F c st Q:=Aj.wk (h▸Wk.frzs ids st) hh
theorem Aj.loopW {X:Type} (S:X→St) (inv:X→Prop) (μ:X→Nat) {c:Code} {Q:Exit→St→Prop} (x0:X) (h0:inv x0) (hl:Wk st (S x0))
 (hb: ∀ x,inv x→Aj P F c (S x) (BO (fun st'=> ∃ y,inv y∧μ y<μ x∧Wk st' (S y)) Q)):Aj P F (.loop c) st Q:=by
 refine Aj.loop (X:=X×St) (fun p=>p.2) (fun p=>inv p.1∧Wk p.2 (S p.1)) (fun p=>μ p.1) (x0,st) ⟨h0,hl⟩ (Cb.refl _) (fun p hp=>?_)
 refine(Aj.wk hp.2 (hb p.1 hp.1)).mono fun e st' q=>?_
 cases e<;>simp only [BO]at q ⊢ <;>try exact q
 obtain⟨y,h1,h2,h3⟩:=q
 exact⟨(y,st'),⟨h1,h3⟩,h2,Cb.refl _⟩
theorem It {σ ρ:Type} {B:σ→Option (σ⊕ρ)} (S:σ→St) {N:Nat} {s0:σ} {o:ρ} {c:Code} {Q:Exit→St→Prop} (hi:PL.iter B N s0=some o) (hl:Wk st (S s0))
 (hb: ∀ s z,B s=some z→(∀ o',z= .inr o'→o'=o)→Aj P F c (S s) (BO (fun st'=> ∃ s',z= .inl s'∧Wk st' (S s')) Q)):Aj P F (.loop c) st Q:=by
 refine Aj.loopW (X:=Nat×σ) (fun x=>S x.2) (fun x=>PL.iter B x.1 x.2=some o) (fun x=>x.1) (N,s0) hi hl ?_
 intro ⟨n,s⟩ hx
 cases n with
 | zero=>simp [PL.iter]at hx
 | succ n=>
   simp only [PL.iter]at hx
   cases hB:B s with
   | none=>rw [hB]at hx;simp at hx
   | some z=>
     rw [hB]at hx
     cases z with
     | inl s'=>
       refine(hb s _ hB (fun o' e=>by cases e)).mono fun e st' q=>?_
       cases e<;>simp only [BO]at q ⊢ <;>try exact q
       obtain⟨s'',e,hl'⟩:=q
       injection e with e;subst e
       exact⟨(n,s'),hx,Nat.lt_succ_self _,hl'⟩
     | inr r=>
       simp only [Option.some.injEq]at hx
       refine(hb s _ hB (fun o' e=>by injection e with e;rw [←e];exact hx)).mono fun e st' q=>?_
       cases e<;>simp only [BO]at q ⊢ <;>try exact q
       obtain⟨s'',e,_⟩:=q
       cases e
theorem Sj {X:Type} (S:X→St) (Φ:X→Prop) {x y:Code} {Q:Exit→St→Prop} (hx:Aj P F x st (BO (fun st'=> ∃ v,Φ v∧Wk st' (S v)) Q)) (hy: ∀ v,Φ v→Aj P F y (S v) Q):Aj P F (.seq x y) st Q:=
 Aj.seq (hx.mono fun e st' q=>by
  cases e<;>simp only [BO]at q ⊢ <;>try exact q
  obtain⟨v,h1,h2⟩:=q
  exact Aj.wk h2 (hy v h1))
end
theorem Sn {α:Type} (e:α→List C) (x:α) {z:List C} (hz:z=e x) (hp:0<z.length): ∀ k,Cl z k=(List.replicate k x).flatMap e:=by
 intro k
 subst hz
 apply List.ext_getElem?
 intro i
 have hlen:((List.replicate k x).flatMap e).length =k*(e x).length :=by
  induction k with
  | zero=>simp
  | succ k ih=>rw [List.replicate_succ,List.flatMap_cons,List.length_append,ih,Nat.succ_mul,Nat.add_comm]
 by_cases hi:i<k*(e x).length
 ·have hm:i % (e x).length <(e x).length :=Nat.mod_lt _ hp
  have key: ∀ k i,i<k*(e x).length →((List.replicate k x).flatMap e)[i]? =(e x)[i % (e x).length]? :=by
   intro k
   induction k with
   | zero=>intro i h;simp at h
   | succ k ih=>
     intro i h
     rw [List.replicate_succ,List.flatMap_cons]
     by_cases hlt:i<(e x).length
     ·rw [List.getElem?_append_left hlt,Nat.mod_eq_of_lt hlt]
     ·rw [List.getElem?_append_right (by omega),ih _ (by rw [Nat.succ_mul]at h;omega), ←Nat.mod_eq_sub_mod (by omega)]
  rw [key k i hi]
  simp only [Cl,List.getElem?_map,List.getElem?_range hi,Option.map_some]
  rw [List.getD_eq_getElem?_getD,List.getElem?_eq_getElem hm]
  rfl
 ·rw [List.getElem?_eq_none (by simp only [Cl,List.length_map,List.length_range];omega),List.getElem?_eq_none (by rw [hlen];omega)]
theorem yA {α:Type} {x:α} {lx:List α} {n:Nat} (h:some (List.replicate n x)=some lx) (e:α→List C) (hp:Nat.blt 0 (e x).length =true:=by kernel_rfl):n=lx.length∧Cl (e x) n=lx.flatMap e:=by
 have:=Option.some.inj h
 subst this
 exact⟨by simp,Sn e x rfl (by simpa using hp) n⟩
theorem cx {α:Type} {s c:List α} {a b:Int} (h:lsub s a b=some c):0≤a∧a≤b∧b≤s.length:=by
 unfold lsub at h;split at h
 ·assumption
 ·cases h
theorem qJ {α:Type} {s c:List α} {a b:Int} (h:lsub s a b=some c):c=(s.drop a.toNat).take (b.toNat - a.toNat):=by
 unfold lsub at h;split at h
 ·exact(Option.some.inj h).symm
 ·cases h
theorem Z9 {α:Type} {e:α→List C} {N:Nat} (hN: ∀ x,(e x).length =N): ∀ (l:List α) (k:Nat),(l.flatMap e).drop (k*N)=(l.drop k).flatMap e
 | l,0=>by simp
 | [],k+1=>by simp
 | x::l,k+1=>by
   rw [List.flatMap_cons,List.drop_succ_cons, ←Z9 hN l k,Nat.succ_mul,Nat.add_comm, ←List.drop_drop]
   congr 1
   rw [←hN x,List.drop_left]
theorem ac {α:Type} {e:α→List C} {N:Nat} (hN: ∀ x,(e x).length =N): ∀ (l:List α) (k:Nat),(l.flatMap e).take (k*N)=(l.take k).flatMap e
 | l,0=>by simp
 | [],k+1=>by simp
 | x::l,k+1=>by
   rw [List.flatMap_cons,List.take_succ_cons,List.flatMap_cons, ←ac hN l k,Nat.succ_mul,Nat.add_comm, ←hN x,List.take_length_add_append]
theorem v8 {α:Type} {l r:List α} {a b:Int} {e:α→List C} {N:Nat} (h:lsub l a b=some r) (hN: ∀ x,(e x).length =N):V.c (.sl (b.toNat - a.toNat) (((l.flatMap e).drop (a.toNat*N)).take ((b.toNat - a.toNat)*N)))=vL e r:=by
 have hb:=cx h
 rw [Z9 hN,ac hN, ←qJ h]
 have:r.length=b.toNat - a.toNat:=by
  rw [qJ h,List.length_take,List.length_drop]
  omega
 unfold vL
 rw [this]
theorem flat_len' {α:Type} {enc:α→List C} {n:Nat} (hn: ∀ x,(enc x).length =n) (l:List α):(l.flatMap enc).length =l.length*n:=Cg hn l
end Go.PL
namespace Go.PL
open Go Go.RowKit
end Go.PL
namespace Go.PL
open Go Go.RowKit
end Go.PL
namespace Go.PL
open Go Go.RowKit
end Go.PL
namespace Go.PL
open Go Go.RowKit
end Go.PL
namespace Go.PL
open Go Go.RowKit
section
variable {P:Program} {F:Fr} {st:St}
def qK (Q:Exit→St→Prop):Exit→St→Prop
 | .goto _,_=>False
 | e,st=>Q e st
theorem Aj.label {l:Nat} {Q:Exit→St→Prop} (h:Q .normal st):Aj P F (.label l) st Q:=fun _ _ G hR=>wp_label ⟨st,G,h,hR⟩
theorem Aj.scope {c:Code} {Q:Exit→St→Prop} (h:Aj P F c st (qK Q)):Aj P F (.scope c) st Q:=
 fun a w G hR=>wp_scope_straight (Code.wp_mono (fun e a' w' ⟨st',G',q,hR'⟩=>by
  cases e<;>simp only [Exit.noGoto,qK]at q ⊢ <;>first
   | exact q.elim
   | exact⟨st',G',q,hR'⟩) (h a w G hR))
end
end Go.PL
namespace Go.PL
open Go Go.RowKit
end Go.PL
namespace Go.PL
open Go Go.RowKit Go.Lib
end Go.PL
namespace Go.PL
open Go Go.RowKit
section
variable {P:Program} {F:Fr} {st:St} {ops:Array Oper}
end
end Go.PL
namespace Go.PL
open Go Go.RowKit
end Go.PL
namespace Go.PL
open Go Go.RowKit Go.MapKept
section
variable {F:Fr} {st:St} {a:Act} {w:World} {G:Bj}
end
section
variable {P:Program} {I:World→Prop} {o:Oper} {st:St} {K:St→Prop}
end
end Go.PL
namespace Go.PL
open Go Go.RowKit
theorem YE.inlineB {P:Program} {I:World→Prop} {o:Oper} {st:St} {K:St→Prop} {x:Operand} {xs:List Operand} {c:Call} {s:Prop} {vs:List V} {f:FuncId} {cs:List C} {fn:Func} {body:Code} {n:Nat} {rs:List ResultVar} (k:Nat)
 (ho:o.op= .call c) (hcal:c.callee= .value x) (hxs:c.args.toList=xs) (ha:st.args true xs=(s,vs)) (hs:s) (hf:st.ev x= .c (.bmv f cs)) (hent:ent P f=true) (hfn:P.funcs[f]? =some fn) (hb:fn.body=some body) (hn:fn.ntmps=n) (hr:fn.results=rs.toArray)
 (h: ∀ w0 av old gv,Aj P ⟨w0,av,old,I,gv⟩ body (st.enter k (cs.map V.c++vs) n) (p6 P rs st.tm.length st.pre o.dst K)):YE P I o st K:=by
 intro F a w G Q hI hR
 have hargs:AJ w G vs (xs.map a.eval):=by
  have:=hR.args (g:=true) rfl (xs:=xs) (by rw [ha];exact hs)
  rw [ha]at this;exact this
 obtain⟨arr,hev,hcs⟩: ∃ arr:Array Value,a.eval x= .func (.func f) arr #[]∧At w G cs arr.toList:=by
  have hx:=hR.ev x
  rw [hf]at hx
  simpa only [Ak,Ap] using hx
 have hrun:(execOp a.eval o).run P w= .ok (.enter f (arr++(xs.map a.eval).toArray)) w:=by
  have e:c.args.map a.eval=(xs.map a.eval).toArray :=by apply Array.ext';simp [←hxs]
  simp [execOp,ho,resolve,hcal,hev,Deferred.ofValue,invoke,run_callFunc' hent,e]
 unfold Oper.wp Oper.upon
 rw [hrun]
 simp only
 obtain⟨w0,av,old,I',gv⟩:=F
 simp only at hI;subst hI
 have hall:AJ w G (cs.map V.c++vs) (arr++(xs.map a.eval).toArray).toList :=by
  simpa using G5 (R8 hcs) hargs
 refine calls_of_wp hfn hb ?_
 have hR0:=hR.enter k hall fn.ntmps
 rw [hn]at hR0
 rw [hn]
 refine Code.wp_mono (fun e a' w' ⟨st',G',q,hR'⟩=>?_) (h _ _ _ _ _ _ _ hR0)
 have hrs:fn.results.toList=rs:=by rw [hr]
 have fin:(CB P st' rs).1∧K (st'.back st.tm.length st.pre o.dst (CB P st' rs).2)→
  a'.defers=[]∧ ∃ v,(results fn a'.tmps).run P w'= .ok v w'∧oe ⟨w0,av,old,I',gv⟩ K (a.put o.dst v) w':=by
  intro ⟨q1,q2⟩
  rw [←hrs]at q1 q2
  obtain⟨v,k1,k2⟩:=P6 hR' (fn:=fn) q1
  refine⟨hR'.dfr,v,k1,_,G',q2,?_⟩
  exact(R.back hR.dfr rfl hR' hR.size.symm st.pre).put k2
 cases e<;>simp only [p6]at q<;>first | exact fin q | exact q.elim
end Go.PL
namespace Go.PL
open Go Go.RowKit
def yB:List V→Nat→List Nat→List V
 | [],_,_=>[]
 | v::vs,_,[]=>v::vs
 | v::vs,i,j::l=>match Nat.beq i j with
   | true=> .undef ::yB vs (i+1) l
   | false=>v::yB vs (i+1) (j::l)
def yC:List V→Nat→List (Nat×V)→List V
 | [],_,_=>[]
 | v::vs,_,[]=>v::vs
 | v::vs,i,(j,x)::l=>match Nat.beq i j with
   | true=>x::yC vs (i+1) l
   | false=>v::yC vs (i+1) ((j,x)::l)
inductive Dn where
 | k (n:Nat)
 | s (n:Nat) (l:List (Nat×C))
 | e (x:AM)
def zf:List C→Nat→List (Nat×C)→List C
 | [],_,_=>[]
 | v::vs,_,[]=>v::vs
 | v::vs,i,(j,x)::l=>match Nat.beq i j with
   | true=>x::zf vs (i+1) l
   | false=>v::zf vs (i+1) ((j,x)::l)
def wc:List AM→Nat→AM
 | [],_=>⟨[],none,[],false⟩
 | e::_,0=>e
 | _::l,n+1=>wc l n
def yD (old:List AM):List Dn→List AM
 | []=>[]
 | .k n::l=>wc old n::yD old l
 | .s n c::l=>(match wc old n with | ⟨i,r,cs,p⟩=>⟨i,r,zf cs 0 c,p⟩)::yD old l
 | .e x::l=>x::yD old l
def u (d:List Nat) (l:List (Nat×V)) (st:St):St:=⟨yC (yB st.tm 0 d) 0 l,st.so,st.gh,st.pre⟩
def uo (d:List Nat) (l:List (Nat×V)) (o:List Dn) (st:St):St:=⟨yC (yB st.tm 0 d) 0 l,yD st.so o,st.gh,st.pre⟩
def nA:Nat→List Stp
 | 0=>[]
 | n+1=> .a ::nA n
section
variable {P:Program} {F:Fr} {st:St} {id:Nat} {l:List Oper} {c:Code} {Q:Exit→St→Prop} {cs:List Prop} {K:St→Prop}
theorem Gg (ss:List Stp) (f:St→St) (hl:Bb cs) (h:Aj P F c (f st) Q) (hr:fH (HM P F.I false l.toArray l ss st) (f st)=some (cs,f st):=by kernel_rfl):Aj P F (.seq (.region id l.toArray false) c) st Q:=Aj.rg _ hr hl h
theorem Ge (ss:List Stp) (f:St→St) (hl:Bb cs) (h:Q .normal (f st)) (hr:HM P F.I false l.toArray l ss st=some (cs,f st):=by kernel_rfl):Aj P F (.region id l.toArray false) st Q:=Aj.reg hr hl h
theorem Gw {I:World→Prop} {ops:Array Oper} (ss:List Stp) (f:St→St) (hc:Bb cs) (hK:K (f st)) (h:HM P I false ops l ss st=some (cs,f st):=by kernel_rfl):CI P I ops l st K:=Run.whole (f st) h hc hK
theorem Gs (f:St→St) (h:Aj P F c (f st) Q) (hl:Oz st (f st)=some (f st):=by kernel_rfl):Aj P F c st Q:=Aj.less (Cb.t hl) h
theorem Gj {X:Type} (S:X→St→St) (Φ:X→Prop) {x y:Code} {Q:Exit→St→Prop} (hx:Aj P F x st (BO (fun st'=> ∃ v,Φ v∧Wk st' (S v st)) Q)) (hy: ∀ v,Φ v→Aj P F y (S v st) Q):Aj P F (.seq x y) st Q:=Sj (fun v=>S v st) Φ hx hy
theorem Gi {σ ρ:Type} {B:σ→Option (σ⊕ρ)} (S:σ→St→St) {N:Nat} {s0:σ} {o:ρ} {c:Code} {Q:Exit→St→Prop} (hi:PL.iter B N s0=some o) (hl:Wk st (S s0 st))
 (hb: ∀ s z,B s=some z→(∀ o',z= .inr o'→o'=o)→Aj P F c (S s st) (BO (fun st'=> ∃ s',z= .inl s'∧Wk st' (S s' st)) Q)):Aj P F (.loop c) st Q:=It (fun v=>S v st) hi hl hb
theorem hS {x y:Code} {Q:Exit→St→Prop} (h:Aj P F x st (BO (fun st'=>Aj P F y st' Q) Q)):Aj P F (.seq x y) st Q:=Aj.seq h
theorem hK (h:Q .normal st):Aj P F .skip st Q:=Aj.skip h
theorem hT (h:K st):Aj P F .skip st (BO K Q):=Aj.skip h
theorem hR (h:Q .ret st):Aj P F .ret st Q:=Aj.ret h
theorem hE {id:Nat} (h:Q (.exit id) st):Aj P F (.exit id) st Q:=Aj.exit h
theorem hB {id:Nat} {c:Code} {Q:Exit→St→Prop} (h:Aj P F c st (Bz id Q)):Aj P F (.block id c) st Q:=Aj.block h
theorem hO {id:Nat} {ops:Array Oper} {Q:Exit→St→Prop} (h:CI P F.I ops ops.toList st (Q .normal)):Aj P F (.region id ops false) st Q:=Aj.region h
theorem Te {i:Nat} (h:Q (.exit i) st):BO K Q (.exit i) st:=h
theorem qN {i:Nat} (h:Q .normal st):Bz i Q .normal st:=h
theorem qR {i:Nat} (h:Q .ret st):Bz i Q .ret st:=h
theorem qX {i:Nat} (h:Q .normal st):Bz i Q (.exit i) st:=Bz.out h
end
section
variable {α:Type} {e x:α}
theorem kB {e b:Bool} (h:some e=some b):vB e=vB b:=congrArg vB (sI h)
end
section
variable {α β γ δ ε:Type} {r:ε}
theorem YG {o:Option α} {f:α→Option β} {g:α→β→Option ε} (h:(o.bind fun x=>(f x).bind (g x))=some r): ∃ x,o=some x∧ ∃ y,f x=some y∧g x y=some r:=by
 obtain⟨x,hx,h⟩:=bS h
 obtain⟨y,hy,h⟩:=bS h
 exact⟨x,hx,y,hy,h⟩
theorem wd {o:Option α} {f:α→Option β} {g:α→β→Option γ} {k:α→β→γ→Option ε} (h:(o.bind fun x=>(f x).bind fun y=>(g x y).bind (k x y))=some r): ∃ x,o=some x∧ ∃ y,f x=some y∧ ∃ z,g x y=some z∧k x y z=some r:=by
 obtain⟨x,hx,h⟩:=bS h
 obtain⟨y,hy,z,hz,h⟩:=YG h
 exact⟨x,hx,y,hy,z,hz,h⟩
theorem pT {o:Option α} {f:α→Option β} {g:α→β→Option γ} {k:α→β→γ→Option δ} {m:α→β→γ→δ→Option ε} (h:(o.bind fun x=>(f x).bind fun y=>(g x y).bind fun z=>(k x y z).bind (m x y z))=some r): ∃ x,o=some x∧ ∃ y,f x=some y∧ ∃ z,g x y=some z∧ ∃ w,k x y z=some w∧m x y z w=some r:=by
 obtain⟨x,hx,h⟩:=bS h
 obtain⟨y,hy,z,hz,w,hw,h⟩:=wd h
 exact⟨x,hx,y,hy,z,hz,w,hw,h⟩
end
section
variable {P:Program} {F:Fr} {st:St} {K:St→Prop}
theorem iC {cc:Operand} {x y:Code} {Q:Exit→St→Prop} {β:Type} {b:Bool} {X Y:Option β} {r:β} (h:(if b=true then X else Y)=some r) (h1:X=some r→Aj P F x st Q) (h2:Y=some r→Aj P F y st Q) (hc:st.ev cc= .c (.bool b):=by kernel_rfl):Aj P F (.cond cc x y) st Q:=
 Aj.ifB b hc (fun hb=>h1 (iT h hb)) (fun hb=>h2 (iF h hb))
theorem nR {rs:List ResultVar} {m:Nat} {pre:AC} {d:Option Nat} (v:V) (hK:K (st.back m pre d v)) (h:YL P st rs=some v:=by kernel_rfl):p6 P rs m pre d K .ret st:=p6.ret h hK
def zg:Nat→Prop
 | 0=>True
 | n+1=>True∧zg n
theorem xP: ∀ n,zg n
 | 0=>trivial
 | n+1=>⟨trivial,xP n⟩
theorem Ei {I:World→Prop} {o:Oper} {x:Operand} {xs:List Operand} {c:Call} {f:FuncId} {fn:Func} {body:Code} {n:Nat} (k:Nat) (vs:List V) (cs:List C)
 (hfn:P.funcs[f]? =some fn) (hn:fn.ntmps=n) (rs:List ResultVar) (hb:fn.body=some body) (ho:o.op= .call c) (hcal:c.callee= .value x) (hxs:c.args.toList=xs)
 (h: ∀ w0 av old gv,Aj P ⟨w0,av,old,I,gv⟩ body (st.enter k (vs++cs.map V.c) n) (p6 P rs st.tm.length st.pre o.dst K))
 (ha:st.args true xs=(zg vs.length,vs):=by kernel_rfl) (hf:P5 st x=some (f,cs):=by kernel_rfl) (hent:ent P f=true:=by kernel_rfl) (hr:fn.results=rs.toArray:=by kernel_rfl):YE P I o st K:=
 YE.inline k ho hcal hxs ha (xP _) hf hent hfn hb hn hr h
end
theorem AQ.bo {P:Program} {I:World→Prop} (hsta:O7 I) {f:FuncId} {fn:Func} {c:Code} {args:List V} {Q:V→Prop} {n:Nat} (hf:P.funcs[f]? =some fn) (hb:fn.body=some c) (hn:fn.ntmps=n) (rs:List ResultVar)
 (h: ∀ w0 av old gv,Aj P ⟨w0,av,old,I,gv⟩ c (St.start args n) (fun e st'=>(e= .normal ∨e= .ret)∧(C5 P st' rs).1∧(C5 P st' rs).2.pure =true∧Q (C5 P st' rs).2))
 (hent:PL.ent P f=true:=by kernel_rfl) (hr:fn.results=rs.toArray:=by kernel_rfl):AQ P I f args Q:=AQ.body hsta hent hf hb hn hr rfl h
end Go.PL
namespace Go.PL
open Go Go.RowKit
end Go.PL
namespace Go.PL
open Go Go.RowKit
def L4 (E n:Nat) {α:Type} (e:α→List C) (r:List α):List C:=[.isl E n r.length (r.flatMap e)]
section
variable {α:Type} {l l':List (List α)} {i j:Int} {x:List α} {y y':α} {e:α→List C} {E n:Nat}
theorem cy (h:idx l i=some x) (E n:Nat) (e:α→List C):(l.flatMap (L4 E n e))[i.toNat*1]? =some (.isl E n x.length (x.flatMap e)):=by
 obtain⟨h1,h2⟩:=BS h
 have hx:=qt h
 have hlt:i.toNat<l.length:=by omega
 have key: ∀ (l:List (List α)) (k:Nat),(l.flatMap (L4 E n e))[k*1]? =l[k]?.map fun r=> .isl E n r.length (r.flatMap e):=by
  intro l
  induction l with
  | nil=>intro k;simp
  | cons a l ih=>
    intro k
    cases k with
    | zero=>simp [L4]
    | succ k=>
      have:=ih k
      simp only [Nat.mul_one]at this ⊢
      rw [List.flatMap_cons,List.getElem?_append_right (by simp [L4]),List.getElem?_cons_succ, ←this]
      simp [L4]
 rw [key,List.getElem?_eq_getElem hlt,hx,List.getD_eq_getElem?_getD,List.getElem?_eq_getElem hlt]
 rfl
theorem tH (l:List (List α)) (k:Nat) (r:List α) (E n:Nat) (e:α→List C):(l.flatMap (L4 E n e)).set (k*1) (.isl E n r.length (r.flatMap e))=(l.set k r).flatMap (L4 E n e):=by
 induction l generalizing k with
 | nil=>simp
 | cons a l ih=>
   cases k with
   | zero=>simp [L4]
   | succ k=>
     have:=ih k
     simp only [Nat.mul_one]at this ⊢
     simp only [List.flatMap_cons,List.set_cons_succ]
     rw [←this]
     simp [L4,List.set_append_right]
theorem we [Inhabited α] (h:idx l i=some x) (hj:idx x j=some y) {r:List (List α)} (hl:some (l.set i.toNat (x.set j.toNat y'))=some r) {N:Nat} (hN: ∀ a,(e a).length =N) (E n:Nat) (vc:List C) (hv:e y'=vc:=by kernel_rfl):
 j.toNat*N+N≤(x.flatMap e).length ∧(l.flatMap (L4 E n e)).set (i.toNat*1) (.isl E n x.length ((x.flatMap e).take (j.toNat*N)++vc++(x.flatMap e).drop (j.toNat*N+vc.length)))=r.flatMap (L4 E n e):=by
 subst hv
 obtain⟨h1,h2⟩:=BS hj
 have:=Mn (l:=x) (l':=x.set j.toNat y') (i:=j) (x':=y') (e:=e) (N:=N) (o:=0) (off:=j.toNat*N) (base:=0) (cs:=e y') (pre:=[]) (post:=[]) (by simp:x.flatMap e=[]++(x.flatMap e++[])) rfl rfl rfl hj hN (by simp) (by rw [hN];omega) (by
  have h0:(e y).drop (0+(e y').length)=[]:=List.drop_eq_nil_of_le (by rw [hN,hN];omega)
  rw [h0];simp)
 rw [hN]at this
 refine⟨this.1,?_⟩
 rw [hN,this.2]
 simp only [List.nil_append,List.append_nil]
 have e1:x.length=(x.set j.toNat y').length :=by rw [List.length_set]
 rw [e1,tH]
 injection hl with hl
 rw [hl]
theorem tI {b:Nat} {m:List α} {r:List (List α)} (h:app b l [m]=some r) (E n:Nat) (e:α→List C):l.flatMap (L4 E n e)++[.isl E n m.length (m.flatMap e)]=r.flatMap (L4 E n e):=by
 rw [WE h,List.flatMap_append]
 rfl
theorem wg {b:Nat} {l r:List α} {m:α} (h:app b l [m]=some r):l.length+1=r.length:=by rw [WE h];simp
theorem tJ (l:List (List α)) (E n:Nat) (e:α→List C):(l.flatMap (L4 E n e)).map Oi=l.flatMap (eL e):=by
 rw [List.map_flatMap]
 rfl
end
section
variable {P:Program} {F:Fr} {st:St}
theorem Wk.frD (id:AC) (E:TypeId) (n len:Nat) (cs cells:List C) (hc:cs.map Oi=cells) (hl:st.lookD id=some ⟨id,some (E,n,len),cs,true⟩):Wk st (st.frD id len cells):=fun _ _ _ _ hR=>by
 obtain⟨G',q⟩:=hR.freezeD hl rfl hc
 exact⟨G',q⟩
theorem Fd (id:AC) (E:TypeId) (n len:Nat) (cs cells:List C) (st':St) {c:Code} {Q:Exit→St→Prop} (hc:cs.map Oi=cells) (hh:Aj P F c st' Q)
 (hl:st.lookD id=some ⟨id,some (E,n,len),cs,true⟩:=by kernel_rfl) (h:st.frD id len cells=st':=by kernel_rfl):Aj P F c st Q:=Aj.wk (h▸Wk.frD id E n len cs cells hc hl) hh
end
end Go.PL
namespace Go.PL
open Go Go.RowKit
inductive Kd where
 | int (k:IntKind)
 | bool
 | str
 | lst (E:Nat)
def oK (den:Nat→Type):Kd→Type
 | .int _=>Int
 | .bool =>Bool
 | .str =>List UInt8
 | .lst E=>List (den E)
def DK (den:Nat→Type):List Kd→Type
 | []=>Unit
 | k::ks=>oK den k×DK den ks
def Ca {den:Nat→Type} (enc: ∀ E,den E→List C):(k:Kd)→oK den k→C
 | .int k,n=> .int k n
 | .bool,b=> .bool b
 | .str,s=> .str s
 | .lst E,l=> .sl l.length (List.flatMap (enc E) l)
def FB {den:Nat→Type} (enc: ∀ E,den E→List C):(ks:List Kd)→DK den ks→List C
 | [],_=>[]
 | k::ks,x=>Ca enc k x.1::FB enc ks x.2
structure C6 where
 den:Nat→Type
 inh: ∀ E,Inhabited (den E)
 enc: ∀ E,den E→List C
 ks:Nat→List Kd
 un: ∀ E,den E→DK den (ks E)
 bd: ∀ E,DK den (ks E)→den E
 beq: ∀ E,den E→den E→Bool
 unmk: ∀ E y,un E (bd E y)=y
 encok: ∀ E x,FB enc (ks E) (un E x)=enc E x
 beqok: ∀ E x y,beq E x y=BL (enc E x) (enc E y)
variable {T:C6}
instance (E:Nat):Inhabited (T.den E):=T.inh E
def C6.sz (T:C6) (E:Nat):Nat:=(T.ks E).length
inductive DC (T:C6) where
 | c (x:C)
 | k (kd:Kd) (x:oK T.den kd)
 | ip (E:Nat) (l:List (T.den E)) (i:Int) (x:T.den E) (off:Nat)
 | rp (id:AC) (N:Nat) (i:Int) (off:Nat)
 | ap (id:AC) (base n E:Nat) (i:Int) (off:Nat)
 | clo (b:Bool) (f:FuncId) (cs:List (DC T))
mutual
def DC.toC:DC T→C
 | .c x=>x
 | .k kd x=>Ca T.enc kd x
 | .ip E l i _ off=> .iptr (l.flatMap (T.enc E)) (i.toNat*T.sz E+off)
 | .rp id N i off=> .ptr id (i.toNat*N+off)
 | .ap id base _ E i off=> .ptr id (base+i.toNat*T.sz E+off)
 | .clo true f cs=> .bmv f (A2 cs)
 | .clo false f cs=> .clo f (A2 cs)
def A2:List (DC T)→List C
 | []=>[]
 | c::cs=>c.toC::A2 cs
end
theorem CZ: ∀ cs:List (DC T),A2 cs=cs.map DC.toC
 | []=>by simp [A2]
 | c::cs=>by simp [A2,CZ cs]
structure GL where
 t:Nat
 w:Bool
 b:Bool
def Br:List GL→Bool
 | []=>true
 | [l]=>l.b
 | l::l'::ls=>Br (l'::ls)&&l.b
theorem HP: ∀ {k:List GL},Br k=true↔ ∀ l∈k,l.b=true
 | []=>by simp [Br]
 | [l]=>by simp [Br]
 | l::l'::ls=>by
   simp only [Br,Bool.and_eq_true,HP (k:=l'::ls),List.mem_cons]
   constructor
   ·rintro⟨h1,h2⟩ x hx
    rcases hx with rfl | hx
    ·exact h2
    ·exact h1 x hx
   ·intro h
    exact⟨fun x hx=>h x (.inr hx),h l (.inl rfl)⟩
inductive DV (T:C6) where
 | c (x:DC T)
 | agg (cs:List (DC T))
 | tup (vs:List (DV T))
 | g (key:List GL) (v:DV T)
 | u
mutual
def DV.toV:DV T→V
 | .c x=> .c x.toC
 | .agg cs=> .agg (A2 cs)
 | .tup vs=> .tup (Bx vs)
 | .g key v=> .g (Br key) v.toV
 | .u => .undef
def Bx:List (DV T)→List V
 | []=>[]
 | v::vs=>v.toV::Bx vs
end
theorem Mp: ∀ vs:List (DV T),Bx vs=vs.map DV.toV
 | []=>by simp [Bx]
 | v::vs=>by simp [Bx,Mp vs]
inductive DX (T:C6) where
 | box (cs:List (DC T))
 | row (E:Nat) (l:List (T.den E))
structure DE (T:C6) where
 id:AC
 tag:Nat
 x:DX T
def DE.toE (e:DE T):AM:=match e.x with
 | .box cs=>⟨e.id,none,A2 cs,false⟩
 | .row E l=>⟨e.id,some (E,T.sz E,l.length),l.flatMap (T.enc E),true⟩
theorem DE.toE_id (e:DE T):e.toE.id=e.id:=by
 unfold DE.toE;split<;>rfl
abbrev Tm (T:C6):=List (Nat×Nat×DV T)
def lk:Tm T→Nat→DV T
 | [],_=> .u
 | (s,_,v)::r,i=>match Nat.beq s i with
   | true=>v
   | false=>lk r i
def YM:Tm T→Nat→Nat
 | [],_=>0
 | (s,t,_)::r,i=>match Nat.beq s i with
   | true=>t+1
   | false=>YM r i
def Bt (m:Nat) (tm:Tm T):List V:=(List.range m).map fun i=>(lk tm i).toV
structure AB (T:C6) where
 m:Nat
 tm:Tm T
 so:List (DE T)
 gh:List (Nat×Tm T)
 pre:AC
 nx:Nat
def AB.toSt (st:AB T):St:=⟨Bt st.m st.tm,st.so.map DE.toE,st.gh.flatMap fun f=>Bt f.1 f.2,st.pre⟩
mutual
def DC.ok:DC T→Prop
 | .ip _ l i x _=>idx l i=some x
 | .clo _ _ cs=>Cm cs
 | _=>True
def Cm:List (DC T)→Prop
 | []=>True
 | c::cs=>c.ok∧Cm cs
end
theorem Co: ∀ {cs:List (DC T)},Cm cs↔ ∀ c∈cs,c.ok
 | []=>by simp [Cm]
 | c::cs=>by simp [Cm,Co (cs:=cs)]
structure A0 (T:C6) where
 v:Nat→DV T
 e:Nat→DE T
def cz:DV T→Bool
 | .c (.k .bool b)=>b
 | .g _ (.c (.k .bool b))=>b
 | _=>false
def GL.ok (H:A0 T) (nx:Nat) (l:GL):Prop:=l.t<nx∧l.b=(cz (H.v l.t)==l.w)
mutual
def DV.ok (H:A0 T) (nx:Nat):DV T→Prop
 | .c x=>x.ok
 | .agg cs=>Cm cs
 | .tup vs=>Dk H nx vs
 | .g key v=>(∀ l∈key,l.ok H nx)∧(Br key=true→v.ok H nx)
 | .u =>True
def Dk (H:A0 T) (nx:Nat):List (DV T)→Prop
 | []=>True
 | v::vs=>v.ok H nx∧Dk H nx vs
end
theorem HQ {H:A0 T} {nx:Nat}: ∀ {vs:List (DV T)},Dk H nx vs↔ ∀ v∈vs,v.ok H nx
 | []=>by simp [Dk]
 | c::cs=>by simp [Dk,HQ (vs:=cs)]
def Ph (H:A0 T) (nx:Nat) (tm:Tm T):Prop:= ∀ s t v,(s,t,v)∈tm→t<nx∧H.v t=v∧v.ok H nx
def DX.ok:DX T→Prop
 | .box cs=>Cm cs
 | .row _ _=>True
structure BW (H:A0 T) (st:AB T):Prop where
 tm:Ph H st.nx st.tm
 gh: ∀ f∈st.gh,Ph H st.nx f.2
 so: ∀ e∈st.so,e.tag<st.nx∧H.e e.tag=e∧e.x.ok
 nd:(st.so.map DE.id).Nodup
def CR (nx:Nat) (H H':A0 T):Prop:= ∀ t,t<nx→H'.v t=H.v t∧H'.e t=H.e t
theorem CR.refl (nx:Nat) (H:A0 T):CR nx H H:=fun _ _=>⟨rfl,rfl⟩
theorem CR.trans {n m:Nat} {A B D:A0 T} (h:CR n A B) (k:CR m B D) (hnm:n≤m):CR n A D:=fun t ht=>
 ⟨(k t (Nat.lt_of_lt_of_le ht hnm)).1.trans (h t ht).1,(k t (Nat.lt_of_lt_of_le ht hnm)).2.trans (h t ht).2⟩
theorem GL.ok_ext {H H':A0 T} {n m:Nat} (he:CR n H H') (hnm:n≤m) {l:GL} (h:l.ok H n):l.ok H' m:=
 ⟨Nat.lt_of_lt_of_le h.1 hnm,by rw [(he l.t h.1).1];exact h.2⟩
mutual
theorem DV.ok_ext {H H':A0 T} {n m:Nat} (he:CR n H H') (hnm:n≤m): ∀ {v:DV T},v.ok H n→v.ok H' m
 | .c _,h=>by simpa only [DV.ok] using h
 | .agg _,h=>by simpa only [DV.ok] using h
 | .tup vs,h=>by simp only [DV.ok]at h ⊢;exact fV he hnm h
 | .g key v,h=>by
   simp only [DV.ok]at h ⊢
   exact⟨fun l hl=>GL.ok_ext he hnm (h.1 l hl),fun q=>DV.ok_ext he hnm (h.2 q)⟩
 | .u,_=>by simp only [DV.ok]
theorem fV {H H':A0 T} {n m:Nat} (he:CR n H H') (hnm:n≤m): ∀ {vs:List (DV T)},Dk H n vs→Dk H' m vs
 | [],_=>by simp only [Dk]
 | v::vs,h=>by simp only [Dk]at h ⊢;exact⟨DV.ok_ext he hnm h.1,fV he hnm h.2⟩
end
theorem Ch {H H':A0 T} {n m:Nat} (he:CR n H H') (hnm:n≤m) {tm:Tm T} (h:Ph H n tm):Ph H' m tm:=fun s t v hm=>by
 obtain⟨h1,h2,h3⟩:=h s t v hm
 exact⟨Nat.lt_of_lt_of_le h1 hnm,by rw [(he t h1).1];exact h2,DV.ok_ext he hnm h3⟩
theorem Qf (tm:Tm T) (i:Nat):lk tm i= .u ∧YM tm i=0∨ ∃ t,(i,t,lk tm i)∈tm∧YM tm i=t+1:=by
 induction tm with
 | nil=>exact .inl ⟨rfl,rfl⟩
 | cons x r ih=>
   obtain⟨s,t,v⟩:=x
   simp only [lk,YM]
   cases hb:Nat.beq s i with
   | true=>
     have:=Nat.eq_of_beq_eq_true hb
     subst this
     exact .inr ⟨t,by simp,rfl⟩
   | false=>
     rcases ih with ⟨h1,h2⟩ | ⟨t',h1,h2⟩
     ·exact .inl ⟨h1,h2⟩
     ·exact .inr ⟨t',List.mem_cons_of_mem _ h1,h2⟩
theorem xQ {H:A0 T} {nx:Nat} {tm:Tm T} (h:Ph H nx tm) (i:Nat):(lk tm i).ok H nx:=by
 rcases Qf tm i with ⟨h1,_⟩ | ⟨t,h1,_⟩
 ·rw [h1];simp only [DV.ok]
 ·exact(h i t _ h1).2.2
theorem cA {H:A0 T} {nx:Nat} {tm:Tm T} (h:Ph H nx tm) {i t:Nat} (ht:YM tm i=t+1):t<nx∧H.v t=lk tm i:=by
 rcases Qf tm i with ⟨_,h1⟩ | ⟨t',h1,h2⟩
 ·rw [h1]at ht;cases ht
 ·rw [h2]at ht;injection ht with ht;subst ht
  obtain⟨a,b,_⟩:=h i t' _ h1
  exact⟨a,b⟩
def Uf:Value→Option (DC T)
 | .int k n=>some (.k (.int k) n)
 | .bool b=>some (.k .bool b)
 | .string s=>some (.k .str s.data.toList)
 | v=>match GM v with
   | some c=>some (.c c)
   | none=>none
def HR:List Value→Option (List (DC T))
 | []=>some []
 | v::vs=>match Uf v,HR vs with
   | some c,some cs=>some (c::cs)
   | _,_=>none
def So:Value→DV T
 | .agg cs=>match HR cs.toList with
   | some l=> .agg l
   | none=> .u
 | v=>match Uf v with
   | some c=> .c c
   | none=> .u
theorem WL {v:Value} {c:DC T} (h:Uf v=some c):GM v=some c.toC∧c.ok:=by
 unfold Uf at h
 split at h
 ·injection h with h;subst h;exact⟨rfl,by simp only [DC.ok]⟩
 ·injection h with h;subst h;exact⟨rfl,by simp only [DC.ok]⟩
 ·injection h with h;subst h;exact⟨rfl,by simp only [DC.ok]⟩
 ·split at h
  ·rename_i c' hc
   injection h with h;subst h
   exact⟨by rw [hc];simp only [DC.toC],by simp only [DC.ok]⟩
  ·cases h
theorem WM {v:Value} (h:Uf (T:=T) v=none):GM v=none:=by
 unfold Uf at h
 split at h<;>try (cases h;done)
 split at h
 ·cases h
 ·assumption
theorem Mq: ∀ {vs:List Value} {cs:List (DC T)},HR vs=some cs→Em vs=some (A2 cs)∧Cm cs
 | [],cs,h=>by simp [HR]at h;subst h;simp [Em,A2,Cm]
 | v::vs,cs,h=>by
   unfold HR at h
   split at h
   ·rename_i c cs' h1 h2
    injection h with h;subst h
    obtain⟨a,b⟩:=WL h1
    obtain⟨a',b'⟩:=Mq h2
    simp [Em,a,a',A2,Cm,b,b']
   ·cases h
theorem Ug: ∀ {vs:List Value},HR (T:=T) vs=none→Em vs=none
 | [],h=>by simp [HR]at h
 | v::vs,h=>by
   unfold HR at h
   split at h
   ·cases h
   ·rename_i hne
    unfold Em
    cases h1:Uf (T:=T) v with
    | none=>rw [WM h1]
    | some c=>
      cases h2:HR (T:=T) vs with
      | none=>rw [Ug h2];cases GM v<;>rfl
      | some cs=>exact(hne c cs h1 h2).elim
theorem Uh (v:Value) {H:A0 T} {nx:Nat}:(So (T:=T) v).toV =Ky v∧(So (T:=T) v).ok H nx:=by
 cases v
 case agg cs=>
  simp only [So,Ky]
  cases h:HR (T:=T) cs.toList with
  | some l=>
    obtain⟨a,b⟩:=Mq h
    simp only [a,DV.toV,DV.ok];exact⟨trivial,b⟩
  | none=>simp only [Ug h,DV.toV,DV.ok];exact⟨trivial,trivial⟩
 all_goals
  simp only [So,Ky]
  split
  ·rename_i c h
   obtain⟨a,b⟩:=WL h
   simp only [a,DV.toV,DV.ok];exact⟨trivial,b⟩
  ·rename_i h
   simp only [WM h,DV.toV,DV.ok];exact⟨trivial,trivial⟩
def AB.get (st:AB T) (t:Nat):DV T:=match Nat.blt t st.m with
 | true=>lk st.tm t
 | false=> .u
def AB.ev (st:AB T):Operand→DV T
 | .tmp t=>st.get t
 | .const v=>So v
 | .func f=> .c (.c (.fn f))
 | .global _=> .u
theorem Sp (m:Nat) (tm:Tm T) (t:Nat):(Bt m tm).getD t .undef =(match Nat.blt t m with | true=>(lk tm t).toV | false=> .undef):=by
 unfold Bt
 rw [List.getD_eq_getElem?_getD,List.getElem?_map]
 cases hb:Nat.blt t m with
 | true=>
   have:t<m:=by simpa using hb
   rw [List.getElem?_range this];rfl
 | false=>
   have: ¬t<m:=by
    intro h
    have h2:Nat.blt t m=true:=by simpa using h
    rw [h2]at hb;cases hb
   rw [List.getElem?_eq_none (by simpa using this)];rfl
theorem AB.get_toSt (st:AB T) (t:Nat):st.toSt.get t=(st.get t).toV :=by
 show (Bt st.m st.tm).getD t .undef =_
 rw [Sp]
 unfold AB.get
 split<;>simp only [DV.toV]
theorem AB.get_ok {H:A0 T} {st:AB T} (h:BW H st) (t:Nat):(st.get t).ok H st.nx:=by
 unfold AB.get
 split
 ·exact xQ h.tm t
 ·simp only [DV.ok]
theorem AB.ev_toSt (st:AB T) (x:Operand):st.toSt.ev x=(st.ev x).toV :=by
 cases x with
 | tmp t=>exact st.get_toSt t
 | const v=>exact(Uh (T:=T) v (H:=⟨fun _=> .u,fun _=>⟨[],0, .box []⟩⟩) (nx:=0)).1.symm
 | func f=>simp only [St.ev,AB.ev,DV.toV,DC.toC]
 | global g=>simp only [St.ev,AB.ev,DV.toV]
theorem AB.ev_ok {H:A0 T} {st:AB T} (h:BW H st) (x:Operand):(st.ev x).ok H st.nx:=by
 cases x with
 | tmp t=>exact AB.get_ok h t
 | const v=>exact(Uh v).2
 | func f=>simp only [AB.ev,DV.ok,DC.ok]
 | global g=>simp only [AB.ev,DV.ok]
def GL.eq (a b:GL):Bool:=Nat.beq a.t b.t&&(a.w==b.w)
def WN (l:GL):List GL→Bool
 | []=>false
 | a::r=>match GL.eq l a with
   | true=>true
   | false=>WN l r
def Sr:List GL→List GL→Bool
 | [],_=>true
 | l::ls,k=>match WN l k with
   | true=>Sr ls k
   | false=>false
def FC (H:A0 T) (nx:Nat) (k:List GL):Prop:= ∀ l∈k,l.ok H nx
theorem GL.eq_b {H:A0 T} {nx:Nat} {a b:GL} (h:a.eq b=true) (ha:a.ok H nx) (hb:b.ok H nx):a.b=b.b:=by
 simp only [GL.eq,Bool.and_eq_true,Nat.beq_eq,beq_iff_eq]at h
 rw [ha.2,hb.2,h.1,h.2]
theorem fW {H:A0 T} {nx:Nat} {l:GL}: ∀ {k:List GL},WN l k=true→l.ok H nx→FC H nx k→Br k=true→l.b=true
 | [],h,_,_,_=>by simp [WN]at h
 | a::r,h,hl,hk,hc=>by
   unfold WN at h
   have hc':=HP.1 hc
   split at h
   ·rename_i he
    rw [GL.eq_b he hl (hk a (by simp))]
    exact hc' a (by simp)
   ·exact fW h hl (fun x hx=>hk x (by simp [hx])) (HP.2 fun x hx=>hc' x (by simp [hx]))
theorem Qg {H:A0 T} {nx:Nat}: ∀ {ls k:List GL},Sr ls k=true→FC H nx ls→FC H nx k→Br k=true→Br ls=true
 | [],_,_,_,_,_=>rfl
 | l::ls,k,h,h1,h2,hc=>by
   unfold Sr at h
   split at h
   ·rename_i hh
    have a:=fW hh (h1 l (by simp)) h2 hc
    have b:=Qg h (fun x hx=>h1 x (by simp [hx])) h2 hc
    refine HP.2 fun x hx=>?_
    rcases List.mem_cons.1 hx with rfl | hx
    ·exact a
    ·exact HP.1 b x hx
   ·cases h
def AB.arg (st:AB T) (key:List GL) (x:Operand):Option (DV T):=match st.ev x with
 | .g k v=>match Sr k key with
   | true=>some v
   | false=>none
 | v=>some v
theorem AB.arg_spec {H:A0 T} {st:AB T} {key:List GL} {x:Operand} {v:DV T} (hw:BW H st) (hk:FC H st.nx key) (h:st.arg key x=some v) (hc:Br key=true):
 v.ok H st.nx∧(st.toSt.arg (Br key) x).1∧(st.toSt.arg (Br key) x).2=v.toV:=by
 have hev:=AB.ev_ok hw x
 have e:=st.ev_toSt x
 unfold AB.arg at h
 unfold St.arg
 split at h
 ·rename_i k v' hx
  split at h
  ·rename_i hs
   injection h with h;subst h
   rw [hx]at e hev
   simp only [DV.ok]at hev
   simp only [DV.toV]at e
   rw [e]
   have:=Qg hs hev.1 hk hc
   exact⟨hev.2 this,fun _=>this,rfl⟩
  ·cases h
 ·rename_i hne
  injection h with h;subst h
  refine⟨hev,?_⟩
  rw [e]
  cases hv:st.ev x with
  | g k v=>exact(hne k v hv).elim
  | c x=>simp only [DV.toV];exact⟨trivial,trivial⟩
  | agg x=>simp only [DV.toV];exact⟨trivial,trivial⟩
  | tup x=>simp only [DV.toV];exact⟨trivial,trivial⟩
  | u=>simp only [DV.toV];exact⟨trivial,trivial⟩
def M (α:Type):=(R:Type)→(α→Option R)→Option R
namespace M
variable {α β:Type}
def ret (v:α):M α:=fun _ K=>K v
def no:M α:=fun _ _=>none
def sm (o:Option α):M α:=fun _ K=>match o with
 | some v=>K v
 | none=>none
def opt (o:Option β) (f:β→M α):M α:=fun R K=>o.bind fun x=>f x R K
def bnd (m:M β) (f:β→M α):M α:=fun R K=>m R fun x=>f x R K
end M
def Yl {α:Type} (m:M α) (Φ:α→Prop):Prop:= ∀ (R:Type) (K:α→Option R) (r:R),m R K=some r→ ∃ v,Φ v∧K v=some r
namespace Yl
variable {α β:Type} {Φ:α→Prop}
theorem ret {v:α} (h:Φ v):Yl (M.ret v) Φ:=fun _ _ _ hr=>⟨v,h,hr⟩
theorem no:Yl (M.no) Φ:=fun _ _ _ hr=>by cases hr
theorem sm {o:Option α} (h: ∀ v,o=some v→Φ v):Yl (M.sm o) Φ:=fun R K r hr=>by
 unfold M.sm at hr
 split at hr
 ·exact⟨_,h _ rfl,hr⟩
 ·cases hr
theorem opt {o:Option β} {f:β→M α} (h: ∀ x,o=some x→Yl (f x) Φ):Yl (M.opt o f) Φ:=fun R K r hr=>by
 unfold M.opt at hr
 obtain⟨x,h1,h2⟩:=bS hr
 exact h x h1 R K r h2
theorem bnd {m:M β} {f:β→M α} {Ψ:β→Prop} (hm:Yl m Ψ) (h: ∀ x,Ψ x→Yl (f x) Φ):Yl (M.bnd m f) Φ:=fun R K r hr=>by
 obtain⟨v,h1,h2⟩:=hm R _ r hr
 exact h v h1 R K r h2
theorem mono {m:M α} {Ψ:α→Prop} (hm:Yl m Ψ) (h: ∀ x,Ψ x→Φ x):Yl m Φ:=fun R K r hr=>by
 obtain⟨v,h1,h2⟩:=hm R K r hr
 exact⟨v,h v h1,h2⟩
end Yl
def gk {α:Type} [Inhabited α] (key:List GL) (o:Option α):Option α:=match key with
 | []=>o
 | l::ls=>gd (Br (l::ls)) o
theorem WO {α:Type} [Inhabited α] {key:List GL} {o:Option α} {x:α} (h:gk key o=some x) (hc:Br key=true):o=some x:=by
 unfold gk at h
 split at h
 ·exact h
 ·exact U7 h hc
end Go.PL
namespace Go.PL
open Go Go.RowKit
variable {T:C6}
def Ui {den:Nat→Type} {T:C6} (h: ∀ k,oK den k→DC T):(ks:List Kd)→DK den ks→List (DC T)
 | [],_=>[]
 | k::ks,x=>h k x.1::Ui h ks x.2
def km (E:Nat) (x:T.den E):List (DC T):=Ui (fun k y=> .k k y) (T.ks E) (T.un E x)
theorem WP: ∀ (ks:List Kd) (y:DK T.den ks),A2 (Ui (T:=T) (fun k y=> .k k y) ks y)=FB T.enc ks y
 | [],_=>by simp [Ui,A2,FB]
 | k::ks,y=>by simp only [Ui,A2,FB,WP ks,DC.toC]
theorem HS (E:Nat) (x:T.den E):A2 (km E x)=T.enc E x:=by rw [km,WP,T.encok]
theorem fX: ∀ (ks:List Kd) (y:DK T.den ks),Cm (Ui (T:=T) (fun k y=> .k k y) ks y)
 | [],_=>by simp [Ui,Cm]
 | k::ks,y=>by simp only [Ui,Cm,DC.ok];exact⟨trivial,fX ks y.2⟩
theorem Pi (E:Nat) (x:T.den E):Cm (km E x):=fX _ _
theorem ae {den:Nat→Type} {enc: ∀ E,den E→List C}: ∀ (ks:List Kd) (y:DK den ks),(FB enc ks y).length =ks.length
 | [],_=>rfl
 | k::ks,y=>by simp [FB,ae ks]
theorem F5 (E:Nat) (x:T.den E):(T.enc E x).length =T.sz E:=by rw [←T.encok,ae];rfl
theorem WQ {den:Nat→Type} {enc: ∀ E,den E→List C} (k:Kd) (x:oK den k):(Ca enc k x).pure =true:=by
 cases k<;>rfl
theorem WR {den:Nat→Type} {enc: ∀ E,den E→List C}: ∀ (ks:List Kd) (y:DK den ks),AH (FB enc ks y)=true
 | [],_=>rfl
 | k::ks,y=>by simp only [FB,AH,WQ,WR ks,Bool.and_self]
theorem WS (E:Nat) (x:T.den E):AH (T.enc E x)=true:=by rw [←T.encok];exact WR _ _
theorem oL (E:Nat) (l:List (T.den E)):AH (l.flatMap (T.enc E))=true:=Oq _ (WS E) l
def Qh (nils:Bool):(k:Kd)→DC T→Option (oK T.den k)
 | .int k, .k (.int k') n=>match k'==k with
   | true=>some n
   | false=>none
 | .bool, .k .bool b=>some b
 | .str, .k .str s=>some s
 | .lst E, .k (.lst E') l=>match Nat.decEq E' E with
   | .isTrue h=>some (show List (T.den E)from h▸l)
   | .isFalse _=>none
 | .lst E, .c (.sl 0 [])=>some ([]:List (T.den E))
 | .lst E, .c .nils =>match nils with
   | true=>some ([]:List (T.den E))
   | false=>none
 | _,_=>none
def ah (nils:Bool):(ks:List Kd)→List (DC T)→Option (DK T.den ks)
 | [],[]=>some ()
 | k::ks,c::cs=>match Qh nils k c,ah nils ks cs with
   | some x,some y=>some (x,y)
   | _,_=>none
 | _,_=>none
def qM (nils:Bool) (E:Nat) (cs:List (DC T)):Option (T.den E):=match ah nils (T.ks E) cs with
 | some y=>some (T.bd E y)
 | none=>none
theorem KI {nils:Bool} {k:Kd} {c:DC T} {x:oK T.den k} (h:Qh nils k c=some x):Gm c.toC=Ca T.enc k x∧(nils=false→c.toC=Ca T.enc k x):=by
 unfold Qh at h
 split at h
 ·split at h
  ·rename_i hb
   have:=beq_iff_eq.1 hb
   subst this
   injection h with h;subst h
   exact⟨rfl,fun _=>rfl⟩
  ·cases h
 ·injection h with h;subst h;exact⟨rfl,fun _=>rfl⟩
 ·injection h with h;subst h;exact⟨rfl,fun _=>rfl⟩
 ·split at h
  ·rename_i e _
   subst e
   injection h with h;subst h
   exact⟨rfl,fun _=>rfl⟩
  ·cases h
 ·injection h with h;subst h;exact⟨rfl,fun _=>rfl⟩
 ·split at h
  ·injection h with h;subst h;exact⟨rfl,fun q=>by cases q⟩
  ·cases h
 ·cases h
theorem WT {nils:Bool}: ∀ {ks:List Kd} {cs:List (DC T)} {y:DK T.den ks},ah nils ks cs=some y→(A2 cs).map Gm=FB T.enc ks y∧(nils=false→A2 cs=FB T.enc ks y)
 | [],[],y,_=>by simp [A2,FB]
 | [],_::_,_,h=>by simp [ah]at h
 | _::_,[],_,h=>by simp [ah]at h
 | k::ks,c::cs,y,h=>by
   unfold ah at h
   split at h
   ·rename_i x y' h1 h2
    injection h with h;subst h
    obtain⟨a1,a2⟩:=KI h1
    obtain⟨b1,b2⟩:=WT h2
    simp only [A2,List.map_cons,FB,a1,b1,true_and]
    intro hn
    rw [a2 hn,b2 hn]
   ·cases h
theorem HT {nils:Bool} {E:Nat} {cs:List (DC T)} {x:T.den E} (h:qM nils E cs=some x):(A2 cs).map Gm=T.enc E x∧(nils=false→A2 cs=T.enc E x):=by
 unfold qM at h
 split at h
 ·rename_i y hy
  injection h with h;subst h
  rw [←T.encok,T.unmk]
  exact WT hy
 ·cases h
def KJ (E:Nat):Nat→List (DC T)→Option (List (T.den E))
 | 0,_=>some []
 | n+1,cs=>match qM false E (cs.take (T.sz E)),KJ E n (cs.drop (T.sz E))with
   | some x,some l=>some (x::l)
   | _,_=>none
theorem Hm (n:Nat) (cs:List (DC T)):A2 (cs.take n)=(A2 cs).take n:=by simp [CZ,List.map_take]
theorem EO (n:Nat) (cs:List (DC T)):A2 (cs.drop n)=(A2 cs).drop n:=by simp [CZ,List.map_drop]
theorem B4 (a b:List (DC T)):A2 (a++b)=A2 a++A2 b:=by simp [CZ]
theorem Bf (a:List (DC T)):(A2 a).length =a.length:=by simp [CZ]
theorem EP {E:Nat}: ∀ {n:Nat} {cs:List (DC T)} {l:List (T.den E)},KJ E n cs=some l→l.length=n∧ ∃ r,A2 cs=l.flatMap (T.enc E)++r
 | 0,cs,l,h=>by simp [KJ]at h;subst h;exact⟨rfl,A2 cs,by simp⟩
 | n+1,cs,l,h=>by
   unfold KJ at h
   split at h
   ·rename_i x l' h1 h2
    injection h with h;subst h
    have a:=(HT h1).2 rfl
    obtain⟨b1,r,b2⟩:=EP h2
    refine⟨by simp [b1],r,?_⟩
    rw [Hm]at a
    rw [EO]at b2
    rw [List.flatMap_cons,List.append_assoc, ←b2, ←a,List.take_append_drop]
   ·cases h
def HU (ag:Bool) (off n:Nat) (cs:List (DC T)):DV T:=match ag with
 | true=> .agg ((cs.drop off).take n)
 | false=> .c (cs.getD off (.c .any))
theorem JV (ag:Bool) (off n:Nat) (cs:List (DC T)):(HU ag off n cs).toV =toV ag off n (A2 cs):=by
 cases ag
 ·simp only [HU,DV.toV,toV,CZ]
  rw [if_neg (by simp),List.getD_eq_getElem?_getD,List.getD_eq_getElem?_getD,List.getElem?_map]
  cases cs[off]? <;>simp [DC.toC]
 ·simp only [HU,DV.toV,toV,Hm,EO];rfl
theorem NM {cs:List (DC T)} (h:Cm cs) (n:Nat):Cm (cs.take n):=Co.2 fun c hc=>Co.1 h c (List.mem_of_mem_take hc)
theorem NN {cs:List (DC T)} (h:Cm cs) (n:Nat):Cm (cs.drop n):=Co.2 fun c hc=>Co.1 h c (List.mem_of_mem_drop hc)
theorem CL {a b:List (DC T)} (h:Cm a) (k:Cm b):Cm (a++b):=Co.2 fun c hc=>by
 rcases List.mem_append.1 hc with q | q
 ·exact Co.1 h c q
 ·exact Co.1 k c q
theorem JW {H:A0 T} {nx:Nat} (ag:Bool) (off n:Nat) {cs:List (DC T)} (h:Cm cs):(HU ag off n cs).ok H nx:=by
 cases ag
 ·simp only [HU,DV.ok]
  rw [List.getD_eq_getElem?_getD]
  cases hx:cs[off]? with
  | none=>simp [DC.ok]
  | some c=>exact Co.1 h c (List.mem_of_getElem? hx)
 ·simp only [HU,DV.ok];exact NM (NN h _) _
def Cs:AC→AC→Bool
 | [],[]=>true
 | a::x,b::y=>match Nat.beq a b with
   | true=>Cs x y
   | false=>false
 | _,_=>false
theorem BH: ∀ {a b:AC},Cs a b=true↔a=b
 | [],[]=>by simp [Cs]
 | [],_::_=>by simp [Cs]
 | _::_,[]=>by simp [Cs]
 | a::x,b::y=>by
   unfold Cs
   cases h:Nat.beq a b with
   | true=>
     have:=Nat.eq_of_beq_eq_true h
     subst this
     simp [BH (a:=x) (b:=y)]
   | false=>
     have:a ≠ b:=fun e=>by subst e;simp at h
     simp [this]
def nl:List (DC T)→Bool
 | [.c (.mp _)]=>true
 | _=>false
def JX:List (DE T)→AC→Option (DE T)
 | [],_=>none
 | e::r,id=>match Cs e.id id with
   | true=>some e
   | false=>JX r id
def DX.isM:DX T→Bool
 | .box cs=>nl cs
 | .row _ _=>false
def AB.look (st:AB T) (id:AC):Option (DX T):=match EX id||JM id with
 | true=>none
 | false=>match JX st.so id with
   | some e=>match e.x.isM with
     | true=>none
     | false=>some e.x
   | none=>none
theorem HV: ∀ {l:List (DE T)} {id:AC} {e:DE T},JX l id=some e→e∈l∧e.id=id∧ ∀ p:AM→Bool,(∀ x:DE T,x.id ≠ id→p x.toE=false)→p e.toE=true→(l.map DE.toE).find? p=some e.toE
 | [],_,_,h=>by simp [JX]at h
 | x::r,id,e,h=>by
   unfold JX at h
   split at h
   ·rename_i hb
    injection h with h;subst h
    exact⟨by simp,BH.1 hb,fun p _ hp=>by simp [List.find?_cons,hp]⟩
   ·rename_i hb
    obtain⟨h1,h2,h3⟩:=HV h
    refine⟨by simp [h1],h2,fun p hp he=>?_⟩
    have hne:x.id ≠ id:=fun q=>by rw [BH.2 q]at hb;cases hb
    rw [List.map_cons,List.find?_cons,hp x hne]
    exact h3 p hp he
theorem ai {cs:List (DC T)} (h:nl cs=false) (hk: ∀ c∈cs, ∀ kv,c.toC= .mp kv→c= .c (.mp kv)):bO (A2 cs)=false:=by
 match cs with
 | []=>rfl
 | [c]=>
   simp only [A2,bO]
   split
   ·rename_i kv he
    injection he with he _
    have:=hk c (by simp) kv he
    subst this
    simp [nl]at h
   ·rfl
 | a::b::r=>
   simp only [A2]
   generalize a.toC=x
   generalize b.toC=y
   generalize A2 r=z
   cases x<;>rfl
theorem qO (c:DC T) (kv:List (Int×Int)) (h:c.toC= .mp kv):c= .c (.mp kv):=by
 cases c with
 | c x=>simp only [DC.toC]at h;subst h;rfl
 | k kd x=>cases kd<;>simp [DC.toC,Ca]at h
 | ip=>simp [DC.toC]at h
 | rp=>simp [DC.toC]at h
 | ap=>simp [DC.toC]at h
 | clo b f cs=>cases b<;>simp [DC.toC]at h
theorem AB.look_spec {st:AB T} {id:AC} {x:DX T} (h:st.look id=some x): ∃ e,e∈st.so∧e.id=id∧e.x=x∧st.toSt.look id=some e.toE∧st.toSt.lookR id=some e.toE∧JM id=false∧EX id=false:=by
 unfold AB.look at h
 split at h
 ·cases h
 ·rename_i hd
  simp only [Bool.or_eq_false_iff]at hd
  split at h
  ·rename_i e he
   split at h
   ·cases h
   ·rename_i hm
    injection h with h;subst h
    obtain⟨h1,h2,h3⟩:=HV he
    have hM:e.toE.isM=false:=by
     unfold DE.toE AM.isM
     cases hx:e.x with
     | box cs=>
       rw [hx]at hm
       exact ai hm (fun c _ kv q=>qO c kv q)
     | row E l=>rfl
    have hid:=e.toE_id
    refine⟨e,h1,h2,rfl,?_,?_,hd.2,hd.1⟩
    ·refine h3 _ (fun y hy=>?_) ?_
     ·simp only [DE.toE_id,Bool.and_eq_false_iff,beq_eq_false_iff_ne];exact .inl hy
     ·simp only [hid,h2,hM,hd.2];simp
    ·refine h3 _ (fun y hy=>?_) ?_
     ·simp only [DE.toE_id,Bool.and_eq_false_iff,beq_eq_false_iff_ne];exact .inl hy
     ·simp only [hid,h2,hM];simp
  ·cases h
theorem DE.toE_box {e:DE T} {cs:List (DC T)} (h:e.x= .box cs):e.toE=⟨e.id,none,A2 cs,false⟩:=by unfold DE.toE;rw [h]
theorem DE.toE_row {e:DE T} {E:Nat} {l:List (T.den E)} (h:e.x= .row E l):e.toE=⟨e.id,some (E,T.sz E,l.length),l.flatMap (T.enc E),true⟩:=by unfold DE.toE;rw [h]
def Mr (ag:Bool) (off n N:Nat):Bool:=Nat.ble (off+n) N&&(ag||Nat.blt 0 n)
theorem EQ {ag:Bool} {off n N:Nat} (h:Mr ag off n N=true):off+n≤N∧(ag=true∨0<n):=by
 simp only [Mr,Bool.and_eq_true,Nat.ble_eq,Bool.or_eq_true,Nat.blt_eq]at h;exact h
def Qi (st:AB T) (id:AC):Option (List (DC T)):=match st.look id with
 | some (.box cs)=>some cs
 | _=>none
def OA (st:AB T) (id:AC):Option ((E:Nat)×List (T.den E)):=match st.look id with
 | some (.row E l)=>some ⟨E,l⟩
 | _=>none
theorem FH {st:AB T} {id:AC} {cs:List (DC T)} (h:Qi st id=some cs):st.toSt.look id=some ⟨id,none,A2 cs,false⟩∧st.toSt.lookR id=some ⟨id,none,A2 cs,false⟩∧ ∃ e∈st.so,e.id=id∧e.x= .box cs:=by
 unfold Qi at h
 split at h
 ·rename_i cs' hl
  injection h with h;subst h
  obtain⟨e,h1,h2,h3,h4,h5,_⟩:=AB.look_spec hl
  have:=DE.toE_box h3
  rw [h2]at this
  rw [←this]
  exact⟨h4,h5,e,h1,h2,h3⟩
 ·cases h
theorem DM {st:AB T} {id:AC} {E:Nat} {l:List (T.den E)} (h:OA st id=some ⟨E,l⟩):st.toSt.look id=some ⟨id,some (E,T.sz E,l.length),l.flatMap (T.enc E),true⟩∧st.toSt.lookR id=some ⟨id,some (E,T.sz E,l.length),l.flatMap (T.enc E),true⟩∧ ∃ e∈st.so,e.id=id∧e.x= .row E l:=by
 unfold OA at h
 split at h
 ·rename_i E' l' hl
  injection h with h
  injection h with h1 h2
  subst h1
  have h2:=eq_of_heq h2
  subst h2
  obtain⟨e,h1,h2,h3,h4,h5,_⟩:=AB.look_spec hl
  have:=DE.toE_row h3
  rw [h2]at this
  rw [←this]
  exact⟨h4,h5,e,h1,h2,h3⟩
 ·cases h
theorem Qj {H:A0 T} {st:AB T} (hw:BW H st) {id:AC} {cs:List (DC T)} (h:Qi st id=some cs):Cm cs:=by
 obtain⟨_,_,e,h1,_,h3⟩:=FH h
 have:=(hw.so e h1).2.2
 rw [h3]at this
 exact this
def nm (P:Program) (t:TypeId) (key:List GL) (st:AB T) (v:DV T):M (DV T):=
 match Or P t with
 | none=> .no
 | some (ag,n)=>match v with
   | .c (.c (.ptr id off))=>match Qi st id with
     | some cs=>match Mr ag off n cs.length with
       | true=> .ret (HU ag off n cs)
       | false=> .no
     | none=> .no
   | .c (.ip E _ _ x off)=>match Mr ag off n (T.sz E)with
     | true=> .ret (HU ag off n (km E x))
     | false=> .no
   | .c (.rp id N i off)=>match OA st id with
     | some ⟨E,l⟩=>match Nat.beq (T.sz E) N&&Mr ag off n N with
       | true=> .opt (gk key (idx l i)) fun x=> .ret (HU ag off n (km E x))
       | false=> .no
     | none=> .no
   | .c (.ap id base m E i off)=>match Qi st id with
     | some cs=>match KJ E m (cs.drop base),Mr ag off n (T.sz E)&&Nat.ble base cs.length with
       | some l,true=> .opt (gk key (idx l i)) fun x=> .ret (HU ag off n (km E x))
       | _,_=> .no
     | none=> .no
   | _=> .no
def Rd (H:A0 T) (P:Program) (st:AB T) (key:List GL) (op:Op) (v:DV T):Prop:=
 Br key=true→v.ok H st.nx∧(En P st.toSt (Br key) op).1∧(En P st.toSt (Br key) op).2=v.toV
theorem fY {E:Nat} {l:List (T.den E)} {i:Int} {x:T.den E} {off n:Nat} {ag:Bool} (hx:idx l i=some x) (ho:Mr ag off n (T.sz E)=true):
 i.toNat*T.sz E+off+n≤(l.flatMap (T.enc E)).length ∧toV ag (i.toNat*T.sz E+off) n (l.flatMap (T.enc E))=(HU (T:=T) ag off n (km E x)).toV :=by
 obtain⟨h1,h2⟩:=EQ ho
 refine cr hx (fun y=>F5 E y) rfl h1 h2 ?_
 rw [JV,HS]
theorem fZ {H:A0 T} {P:Program} {t:TypeId} {key:List GL} {st:AB T} {v:DV T} (hw:BW H st) (hv:Br key=true→v.ok H st.nx):
 Yl (nm P t key st v) (fun r=>Br key=true→r.ok H st.nx∧(Er P t st.toSt v.toV).1∧(Er P t st.toSt v.toV).2=r.toV):=by
 unfold nm
 split
 ·exact Yl.no
 ·rename_i ag n ht
  split
  ·rename_i id off
   split
   ·rename_i cs hb
    split
    ·rename_i ho
     obtain⟨h1,h2⟩:=EQ ho
     refine Yl.ret fun _=>⟨JW _ _ _ (Qj hw hb),?_⟩
     simp only [DV.toV,DC.toC,Er,ht,(FH hb).2.1]
     rw [JV,Bf]
     exact⟨⟨h1,h2⟩,rfl⟩
    ·exact Yl.no
   ·exact Yl.no
  ·rename_i E l i x off
   split
   ·rename_i ho
    refine Yl.ret fun hc=>⟨JW _ _ _ (Pi E x),?_⟩
    have hx:=hv hc
    simp only [DV.ok,DC.ok]at hx
    obtain⟨a,b⟩:=fY (T:=T) hx ho
    simp only [DV.toV,DC.toC,Er,ht]
    exact⟨⟨a,(EQ ho).2⟩,b⟩
   ·exact Yl.no
  ·rename_i id N i off
   split
   ·rename_i E l hb
    split
    ·rename_i ho
     simp only [Bool.and_eq_true,Nat.beq_eq]at ho
     obtain⟨e,ho⟩:=ho
     subst e
     refine Yl.opt fun x hx=>Yl.ret fun hc=>⟨JW _ _ _ (Pi E x),?_⟩
     obtain⟨a,b⟩:=fY (T:=T) (WO hx hc) ho
     simp only [DV.toV,DC.toC,Er,ht,(DM hb).2.1]
     exact⟨⟨a,(EQ ho).2⟩,b⟩
    ·exact Yl.no
   ·exact Yl.no
  ·rename_i id base m E i off
   split
   ·rename_i cs hb
    split
    ·rename_i l hl ho
     refine Yl.opt fun x hx=>Yl.ret fun hc=>⟨JW _ _ _ (Pi E x),?_⟩
     simp only [Bool.and_eq_true,Nat.ble_eq]at ho
     obtain⟨ho,hbase⟩:=ho
     obtain⟨h1,h2⟩:=EQ ho
     obtain⟨hlen,r,hr⟩:=EP hl
     rw [EO]at hr
     have:=qx (cs:=A2 cs) (pre:=(A2 cs).take base) (post:=r) (base:=base) (e:=T.enc E) (N:=T.sz E) (o:=off) (n:=n) (ag:=ag) (v:=(HU (T:=T) ag off n (km E x)).toV) (off:=base+i.toNat*T.sz E+off)
      (by rw [←hr,List.take_append_drop]) (by rw [List.length_take,Bf];omega) (WO hx hc) (fun y=>F5 E y) (by omega) h1 h2 (by rw [JV,HS])
     simp only [DV.toV,DC.toC,Er,ht,(FH hb).2.1]
     exact⟨⟨this.1,h2⟩,this.2⟩
    ·exact Yl.no
   ·exact Yl.no
  ·exact Yl.no
end Go.PL
namespace Go.PL
open Go Go.RowKit
variable {T:C6}
def WU (st:AB T):Operand→Nat
 | .tmp t=>match Nat.blt t st.m with
   | true=>YM st.tm t
   | false=>0
 | _=>0
def Ss (key:List GL) (tc:Nat) (w p:Bool):List GL:=match tc with
 | 0=>key
 | t+1=>⟨t,w,p==w⟩::key
def Su:DV T→Option (List GL×Bool)
 | .c (.k .bool q)=>some ([],q)
 | .g k (.c (.k .bool q))=>some (k,q)
 | _=>none
def qP (key:List GL) (tc:Nat) (p:Bool) (a b:DV T):M (DV T):=
 match Su a,Su b with
 | some (ka,q),some (kb,r)=>match Sr ka (Ss key tc true p),Sr kb (Ss key tc false p)with
   | true,true=> .ret (.c (.k .bool (if p=true then q else r)))
   | _,_=> .no
 | _,_=> .no
def WV (op:BinOp) (k:IntKind) (a b:Int):DC T:=
 match op with
 | .add => .k (.int k) (k.wrap (a+b))
 | .sub => .k (.int k) (k.wrap (a - b))
 | .mul => .k (.int k) (k.wrap (a*b))
 | .quo => .k (.int k) (k.wrap (a.tdiv b))
 | .rem => .k (.int k) (a.tmod b)
 | .and => .k (.int k) (eN k a b)
 | .or => .k (.int k) (eO k a b)
 | .xor => .k (.int k) (jx k a b)
 | .andNot => .k (.int k) (VE k a b)
 | .shl => .k (.int k) (k.wrap (a*2 ^ (min b.toNat k.bits)))
 | .shr => .k (.int k) (a.fdiv (2 ^ (min b.toNat k.bits)))
 | .eql => .k .bool (a==b)
 | .neq => .k .bool (a != b)
 | .lss => .k .bool (decide (a<b))
 | .leq => .k .bool (decide (a≤b))
 | .gtr => .k .bool (decide (b<a))
 | .geq => .k .bool (decide (b≤a))
theorem qQ (op:BinOp) (k:IntKind) (a b:Int):(WV (T:=T) op k a b).toC =(IF op k a b).2∧(WV (T:=T) op k a b).ok :=by
 cases op<;>exact⟨rfl,by simp only [WV,DC.ok]⟩
def xR (op:BinOp) (a b:List UInt8):Option (DC T):=
 match op with
 | .eql =>some (.k .bool (a==b))
 | .neq =>some (.k .bool (a != b))
 | .lss =>some (.k .bool (Op.bytesLess a b))
 | .leq =>some (.k .bool (Op.bytesLess a b||a==b))
 | .gtr =>some (.k .bool (!(Op.bytesLess a b||a==b)))
 | .geq =>some (.k .bool (!Op.bytesLess a b))
 | _=>none
def oM (op:BinOp) (b:Bool):Option (DC T):=
 match op with
 | .eql =>some (.k .bool b)
 | .neq =>some (.k .bool !b)
 | _=>none
def mIf {α:Type} (b:Bool) (m:M α):M α:=match b with
 | true=>m
 | false=> .no
theorem Yl.mIf {α:Type} {Φ:α→Prop} {b:Bool} {m:M α} (h:b=true→Yl m Φ):Yl (PL.mIf b m) Φ:=by
 cases b with
 | true=>exact h rfl
 | false=>exact Yl.no
def qS:Operand→Bool
 | .const (.int _ n)=> !(decide (n=0))
 | _=>false
def qT:Operand→Bool
 | .const (.int _ n)=>decide (0≤n)
 | _=>false
def nd (lit:Bool) (key:List GL) (p:Prop) [Decidable p] (v:DV T):M (DV T):=match lit with
 | true=> .ret v
 | false=> .opt (gk key (need p)) fun _=> .ret v
def qU (op:BinOp) (key:List GL) (nz nn:Bool) (k:IntKind) (a b:Int):M (DV T):=
 match op with
 | .quo =>nd nz key (b ≠ 0) (.c (WV .quo k a b))
 | .rem =>nd nz key (b ≠ 0) (.c (WV .rem k a b))
 | .shl =>nd nn key (0≤b) (.c (WV .shl k a b))
 | .shr =>nd nn key (0≤b) (.c (WV .shr k a b))
 | op=> .ret (.c (WV op k a b))
def uY (op:BinOp) (key:List GL) (a b:List UInt8):M (DV T):=
 match op with
 | .add => .opt (gk key (cat a b)) fun s=> .ret (.c (.k .str s))
 | op=>match xR op a b with
   | some v=> .ret (.c v)
   | none=> .no
def uZ (op:BinOp) (a b:Bool):M (DV T):=
 match op with
 | .eql => .ret (.c (.k .bool (a==b)))
 | .neq => .ret (.c (.k .bool (a != b)))
 | _=> .no
def wh (P:Program) (op:BinOp) (t:TypeId) (key:List GL) (kc nz nn:Bool) (x y:DV T):M (DV T):=
 match x,y with
 | .c (.k (.int k) a), .c (.k (.int k') b)=>mIf (yx op k k') (qU op key nz nn k a b)
 | .c (.k .str a), .c (.k .str b)=>uY op key a b
 | .c (.k .bool a), .c (.k .bool b)=>mIf (RV P t) (uZ op a b)
 | .c (.c .niface), .c (.c .niface)=>mIf (kc&&IG P t)<|match oM op true with
   | some v=> .ret (.c v)
   | none=> .no
 | .c (.c .held), .c (.c .niface)=>mIf (IG P t)<|match oM op false with
   | some v=> .ret (.c v)
   | none=> .no
 | .c (.c (.ptr _ _)), .c (.c .nilp)=>mIf (TS P t)<|match oM op false with
   | some v=> .ret (.c v)
   | none=> .no
 | .c (.c .nilp), .c (.c .nilp)=>mIf (TS P t)<|match oM op true with
   | some v=> .ret (.c v)
   | none=> .no
 | .agg cs, .agg ds=>match qM false t cs,qM false t ds with
   | some x,some y=>mIf (jJ P t (A2 cs) (A2 ds))<|match op with
     | .eql => .ret (.c (.k .bool (T.beq t x y)))
     | .neq => .ret (.c (.k .bool !(T.beq t x y)))
     | _=> .no
   | _,_=> .no
 | _,_=> .no
section
variable {H:A0 T} {P:Program} {st:AB T} {key:List GL}
theorem aj (hw:BW H st) (hk:FC H st.nx key) {c:Operand} {p:Bool} (hp:st.arg key c=some (.c (.k .bool p))) (w:Bool):FC H st.nx (Ss key (WU st c) w p):=by
 unfold Ss
 split
 ·exact hk
 ·rename_i t ht
  intro l hl
  rcases List.mem_cons.1 hl with rfl | hl
  ·unfold WU at ht
   split at ht
   ·rename_i i
    split at ht
    ·rename_i hb
     obtain⟨h1,h2⟩:=cA hw.tm ht
     refine⟨h1,?_⟩
     show (p==w)=(cz (H.v t)==w)
     rw [h2]
     have e:st.ev (.tmp i)=lk st.tm i:=by show st.get i=_;unfold AB.get;rw [hb]
     unfold AB.arg at hp
     rw [e]at hp
     split at hp
     ·rename_i k v hv
      split at hp
      ·injection hp with hp;subst hp;rw [hv];rfl
      ·cases hp
     ·injection hp with hp;rw [hp];rfl
    ·cases ht
   ·cases ht
  ·exact hk l hl
theorem Uj {tc:Nat} {w p:Bool} (hc:Br key=true) (hp:p=w):Br (Ss key tc w p)=true:=by
 unfold Ss
 split
 ·exact hc
 ·refine HP.2 fun l hl=>?_
  rcases List.mem_cons.1 hl with rfl | hl
  ·simp [hp]
  ·exact HP.1 hc l hl
theorem Uk {v:DV T} {k:List GL} {q:Bool} (h:Su v=some (k,q)):O4 v.toV=some (Br k,q):=by
 unfold Su at h
 split at h
 ·injection h with h;injection h with h1 h2;subst h1 h2;rfl
 ·injection h with h;injection h with h1 h2;subst h1 h2;rfl
 ·cases h
theorem ak {v:DV T} {k:List GL} {q:Bool} (h:Su v=some (k,q)) {nx:Nat} (hv:v.ok H nx):FC H nx k:=by
 unfold Su at h
 split at h
 ·injection h with h;injection h with h1 h2;subst h1 h2;intro l hl;cases hl
 ·injection h with h;injection h with h1 h2;subst h1 h2
  simp only [DV.ok]at hv
  exact hv.1
 ·cases h
theorem qV (hw:BW H st) (hk:FC H st.nx key) {c a b:Operand} {p:Bool} (hp:st.arg key c=some (.c (.k .bool p))):
 Yl (qP key (WU st c) p (st.ev a) (st.ev b)) (fun v=>Br key=true→v.ok H st.nx∧(V4 p (st.toSt.ev a) (st.toSt.ev b)).1∧(V4 p (st.toSt.ev a) (st.toSt.ev b)).2=v.toV):=by
 unfold qP
 split
 ·rename_i ka q kb r h1 h2
  split
  ·rename_i s1 s2
   refine Yl.ret fun hc=>⟨by simp only [DV.ok,DC.ok],?_⟩
   unfold V4
   rw [st.ev_toSt,st.ev_toSt,Uk h1,Uk h2]
   refine⟨⟨fun e=>Qg s1 (ak h1 (AB.ev_ok hw a)) (aj hw hk hp true) (Uj hc e),fun e=>Qg s2 (ak h2 (AB.ev_ok hw b)) (aj hw hk hp false) (Uj hc e)⟩,?_⟩
   rfl
  ·exact Yl.no
 ·exact Yl.no
theorem NO {op:BinOp} {b:Bool} {v:DC T} (h:oM op b=some v) {s:Prop} (hs:s):(Ot op b s).1∧(Ot op b s).2= .c v.toC∧v.ok:=by
 unfold oM at h
 split at h
 ·injection h with h;subst h;exact⟨hs,rfl,by simp only [DC.ok]⟩
 ·injection h with h;subst h;exact⟨hs,rfl,by simp only [DC.ok]⟩
 ·cases h
theorem nq {lit:Bool} {p:Prop} [Decidable p] {v:DV T} (hl:lit=true→p):Yl (nd lit key p v) (fun r=>Br key=true→p∧r=v):=by
 unfold nd
 split
 ·exact Yl.ret fun _=>⟨hl rfl,rfl⟩
 ·exact Yl.opt fun u hu=>Yl.ret fun hc=>by
   have:=Mk (WO hu hc)
   exact⟨this,rfl⟩
theorem qW {op:BinOp} {nz nn:Bool} {k:IntKind} {a b:Int} (h1:nz=true→b ≠ 0) (h2:nn=true→0≤b):Yl (qU (T:=T) op key nz nn k a b) (fun v=>Br key=true→(IF op k a b).1∧v= .c (WV op k a b)):=by
 unfold qU
 split
 ·exact nq h1
 ·exact nq h1
 ·exact nq h2
 ·exact nq h2
 ·refine Yl.ret fun hc=>⟨?_,rfl⟩
  cases op<;>first | trivial | simp_all
def u0 (nz nn:Bool) (y:DV T):Prop:= ∀ (k:IntKind) (b:Int),y= .c (.k (.int k) b)→(nz=true→b ≠ 0)∧(nn=true→0≤b)
theorem tK {op:BinOp} {t:TypeId} {kc nz nn:Bool} {x y:DV T} (hlit:u0 nz nn y):
 Yl (wh P op t key kc nz nn x y) (fun v=>Br key=true→v.ok H st.nx∧(KE P op t kc x.toV y.toV).1∧(KE P op t kc x.toV y.toV).2=v.toV):=by
 unfold wh
 split
 ·rename_i k a k' b
  refine Yl.mIf fun hb=>?_
  have hb':=fu hb
  have key2:(IF op k a b).1→(DV.c (WV (T:=T) op k a b)).ok H st.nx∧(KE P op t kc (DV.c (T:=T) (.k (.int k) a)).toV (DV.c (T:=T) (.k (.int k') b)).toV).1∧(KE P op t kc (DV.c (T:=T) (.k (.int k) a)).toV (DV.c (T:=T) (.k (.int k') b)).toV).2=(DV.c (WV (T:=T) op k a b)).toV :=by
   intro hi
   obtain⟨q1,q2⟩:=qQ (T:=T) op k a b
   refine⟨by simpa only [DV.ok] using q2,?_⟩
   simp only [DV.toV,DC.toC,Ca,KE,U3,q1]
   exact⟨⟨hb',hi⟩,trivial⟩
  obtain⟨l1,l2⟩:=hlit k' b rfl
  exact(qW l1 l2).mono fun v hv hc=>by
   obtain⟨h1,h2⟩:=hv hc
   rw [h2]
   exact key2 h1
 ·rename_i a b
  unfold uY
  split
  ·refine Yl.opt fun s hs=>Yl.ret fun hc=>?_
   have:=WO hs hc
   simp only [DV.ok,DC.ok,DV.toV,DC.toC,Ca,KE,U3,JN,true_and]
   exact⟨uQ this,by rw [uR this]⟩
  ·rename_i hne
   split
   ·rename_i v hv
    refine Yl.ret fun hc=>?_
    unfold xR at hv
    split at hv<;>first
     | (injection hv with hv;subst hv;simp only [DV.ok,DC.ok,DV.toV,DC.toC,Ca,KE,U3,JN,and_self])
     | (cases hv;done)
   ·exact Yl.no
 ·rename_i a b
  refine Yl.mIf fun hb=>?_
  unfold uZ
  split
  ·exact Yl.ret fun _=>⟨by simp only [DV.ok,DC.ok],hb,rfl⟩
  ·exact Yl.ret fun _=>⟨by simp only [DV.ok,DC.ok],hb,rfl⟩
  ·exact Yl.no
 ·refine Yl.mIf fun hb=>?_
  split
  ·rename_i v hv
   refine Yl.ret fun _=>?_
   simp only [Bool.and_eq_true]at hb
   obtain⟨a,b,c⟩:=NO (s:=kc=true∧IG P t=true) hv hb
   exact⟨by simpa only [DV.ok] using c,a,by simp only [DV.toV];exact b⟩
  ·exact Yl.no
 ·refine Yl.mIf fun hb=>?_
  split
  ·rename_i v hv
   refine Yl.ret fun _=>?_
   obtain⟨a,b,c⟩:=NO (s:=IG P t=true) hv hb
   exact⟨by simpa only [DV.ok] using c,a,by simp only [DV.toV];exact b⟩
  ·exact Yl.no
 ·refine Yl.mIf fun hb=>?_
  split
  ·rename_i v hv
   refine Yl.ret fun _=>?_
   obtain⟨a,b,c⟩:=NO (s:=TS P t=true) hv hb
   exact⟨by simpa only [DV.ok] using c,a,by simp only [DV.toV];exact b⟩
  ·exact Yl.no
 ·refine Yl.mIf fun hb=>?_
  split
  ·rename_i v hv
   refine Yl.ret fun _=>?_
   obtain⟨a,b,c⟩:=NO (s:=TS P t=true) hv hb
   exact⟨by simpa only [DV.ok] using c,a,by simp only [DV.toV];exact b⟩
  ·exact Yl.no
 ·rename_i cs ds
  split
  ·rename_i x y h1 h2
   refine Yl.mIf fun hb=>?_
   have e:T.beq t x y=BL (A2 cs) (A2 ds):=by rw [T.beqok,(HT h1).2 rfl,(HT h2).2 rfl]
   split
   ·refine Yl.ret fun _=>⟨by simp only [DV.ok,DC.ok],?_⟩
    simp only [DV.toV,DC.toC,Ca,KE,fg,e]
    exact⟨hb,trivial⟩
   ·refine Yl.ret fun _=>⟨by simp only [DV.ok,DC.ok],?_⟩
    simp only [DV.toV,DC.toC,Ca,KE,fg,e]
    exact⟨hb,trivial⟩
   ·exact Yl.no
  ·exact Yl.no
 ·exact Yl.no
end
end Go.PL
namespace Go.PL
open Go Go.RowKit
variable {T:C6}
def zh (op:UnOp):DV T→M (DV T)
 | .c (.k (.int k) n)=>match op with
   | .neg => .ret (.c (.k (.int k) (k.wrap (0 - (show Int from n)))))
   | .xor => .ret (.c (.k (.int k) (jx k (if k.signed then -1 else k.max) n)))
   | _=> .no
 | .c (.k .bool b)=>match op with
   | .not => .ret (.c (.k .bool !(show Bool from b)))
   | _=> .no
 | _=> .no
def qY (P:Program) (src dst:TypeId):DV T→M (DV T)
 | .c (.k (.int _) n)=>match eP P dst with
   | some k=>mIf (sZ P src) (.ret (.c (.k (.int k) (k.wrap n))))
   | none=> .no
 | .c (.k .str s)=>mIf (EK P src&&EK P dst) (.ret (.c (.k .str s)))
 | _=> .no
def tL (st:AB T) (key:List GL):Option Operand→Option (Option Int)
 | none=>some none
 | some x=>match st.arg key x with
   | some (.c (.k (.int _) n))=>some (some n)
   | _=>none
def vd (key:List GL) (s:List UInt8) (lo hi:Option Int):M (DV T):=
 .opt (gk key (ssub s (lo.getD 0) (hi.getD s.length))) fun r=> .ret (.c (.k .str r))
def ve (key:List GL) (E:Nat) (l:List (T.den E)) (lo hi:Option Int):M (DV T):=
 .opt (gk key (lsub l (lo.getD 0) (hi.getD l.length))) fun r=> .ret (.c (.k (.lst E) r))
def wi (P:Program) (t:TypeId) (key:List GL) (x:DV T) (lo hi:Option Int):M (DV T):=
 match x with
 | .c (.k .str s)=>mIf (EK P t) (vd key s lo hi)
 | .c (.k (.lst E) l)=>match Eo P t with
   | some (_,n)=>mIf (Nat.beq n (T.sz E)) (ve key E l lo hi)
   | none=> .no
 | _=> .no
def qZ (P:Program) (s:TypeId) (f:Nat) (x:DV T):M (DV T):=
 match pW P s f with
 | some (o,_,n)=>mIf (Nat.blt 0 n)<|match x with
   | .c (.c (.ptr id off))=> .ret (.c (.c (.ptr id (off+o))))
   | .c (.ip E l i x off)=> .ret (.c (.ip E l i x (off+o)))
   | .c (.rp id N i off)=> .ret (.c (.rp id N i (off+o)))
   | .c (.ap id base m E i off)=> .ret (.c (.ap id base m E i (off+o)))
   | _=> .no
 | none=> .no
def kn (P:Program) (t:TypeId) (f:Nat) (x:DV T):M (DV T):=
 match x with
 | .agg cs=>match pW P t f with
   | some (o,ag,n)=>mIf (Mr ag o n cs.length) (.ret (HU ag o n cs))
   | none=> .no
 | _=> .no
def f0 (key:List GL) (E:Nat) (l:List (T.den E)) (i:Int) (f:T.den E→DV T):M (DV T):= .opt (gk key (idx l i)) fun x=> .ret (f x)
def wj (P:Program) (t:TypeId) (key:List GL) (st:AB T) (x y:DV T):M (DV T):=
 match y with
 | .c (.k (.int _) i)=>match x with
   | .c (.k (.lst E) l)=>match Eo P t with
     | some (_,n)=>mIf (Nat.beq n (T.sz E)) (f0 key E l i fun x=> .c (.ip E l i x 0))
     | none=> .no
   | .c (.c (.osl id))=>match Eo P t,OA st id with
     | some (_,n),some ⟨E,l⟩=>f0 key E l i fun _=> .c (.rp id n i 0)
     | _,_=> .no
   | .c (.c (.ptr id off))=>match Gf P t,Qi st id with
     | some (k,e,n),some cs=>match KJ e k (cs.drop off)with
       | some l=>mIf (Nat.beq n (T.sz e)&&Nat.ble off cs.length) (f0 key e l i fun _=> .c (.ap id off k e i 0))
       | none=> .no
     | _,_=> .no
   | _=> .no
 | _=> .no
def vf (key:List GL) (s:List UInt8) (i:Int):M (DV T):= .opt (gk key (sidx s i)) fun r=> .ret (.c (.k (.int .u8) r))
def rc (P:Program) (t:TypeId) (key:List GL) (x y:DV T):M (DV T):=
 match y with
 | .c (.k (.int _) i)=>match x with
   | .c (.k .str s)=>mIf (EK P t) (vf key s i)
   | .agg cs=>match Gf P t with
     | some (k,e,n)=>match Or P e,KJ e k cs with
       | some (ag,_),some l=>mIf (Nat.beq n (T.sz e)&&(Nat.blt 0 n&&Nat.beq cs.length (k*n))) (f0 key e l i fun x=>HU ag 0 n (km e x))
       | _,_=> .no
     | none=> .no
   | _=> .no
 | _=> .no
def wl (i:Nat):DV T→M (DV T)
 | .tup vs=>mIf (Nat.blt i vs.length) (.ret (vs.getD i .u))
 | _=> .no
def rf:DV T→M (DV T)
 | .c (.c (.ptr id off))=> .ret (.c (.c (.ptr id off)))
 | .c (.c (.fn f))=> .ret (.c (.c (.fn f)))
 | .c (.ip E l i x off)=> .ret (.c (.ip E l i x off))
 | .c (.rp id N i off)=> .ret (.c (.rp id N i off))
 | .c (.ap id b m E i off)=> .ret (.c (.ap id b m E i off))
 | .c (.clo b f cs)=> .ret (.c (.clo b f cs))
 | _=> .no
def wm (P:Program) (t:TypeId) (st:AB T) (x:DV T):M (DV T):=
 match x with
 | .c (.k .str s)=>mIf (EK P t) (.ret (.c (.k (.int .i64) ((List.length (α:=UInt8) s:Nat):Int))))
 | .c (.k (.lst E) l)=>mIf (F2 P t) (.ret (.c (.k (.int .i64) ((List.length (α:=T.den E) l:Nat):Int))))
 | .c (.c (.osl id))=>match OA st id with
   | some ⟨_,l⟩=>mIf (F2 P t) (.ret (.c (.k (.int .i64) ((l.length:Nat):Int))))
   | none=> .no
 | .agg _=>match Gf P t with
   | some (k,_,_)=> .ret (.c (.k (.int .i64) ((k:Nat):Int)))
   | none=> .no
 | .c (.c (.ptr _ _))=>match Gf P t with
   | some (k,_,_)=> .ret (.c (.k (.int .i64) ((k:Nat):Int)))
   | none=> .no
 | _=> .no
def IS (st:AB T) (key:List GL):List Operand→Option (List (DV T))
 | []=>some []
 | x::xs=>match st.arg key x,IS st key xs with
   | some v,some vs=>some (v::vs)
   | _,_=>none
abbrev zi (x:Int) (ys:List Int):Int:=ys.foldl (fun a y=>if y<a then y else a) x
abbrev zj (x:Int) (ys:List Int):Int:=ys.foldl (fun a y=>if a<y then y else a) x
def vg (k:IntKind) (x:Int) (ys:List Int):DV T:= .c (.k (.int k) (zi x ys))
def vh (k:IntKind) (x:Int) (ys:List Int):DV T:= .c (.k (.int k) (zj x ys))
def Ul:List (DV T)→Option (IntKind×Int×List Int)
 | [.c (.k (.int k) x)]=>some (k,x,[])
 | .c (.k (.int k) x)::vs=>match Ul vs with
   | some (_,y,ys)=>some (k,x,y::ys)
   | none=>none
 | _=>none
def ko:Value→Option (DC T)
 | .int k n=>some (.k (.int k) n)
 | .bool b=>some (.k .bool b)
 | .string s=>some (.k .str s.data.toList)
 | v=>match Wg v with
   | some c=>some (.c c)
   | none=>none
def Qk:List Value→Option (List (DC T))
 | []=>some []
 | v::vs=>match ko v,Qk vs with
   | some c,some cs=>some (c::cs)
   | _,_=>none
def cB (P:Program) (t:TypeId):Option (List (DC T)):=
 match P.info? t with
 | some i=>match i.zero with
   | some z=>Qk z.cells.toList
   | none=>none
 | none=>none
def DV.cells:DV T→Option (List (DC T))
 | .c x=>some [x]
 | .agg cs=>some cs
 | _=>none
def al (place:Nat→Option (Nat×Nat)) (cells:List (DC T)):List (Nat×DV T)→Option (List (DC T))
 | []=>some cells
 | (i,v)::rest=>match place i,v.cells with
   | some (off,size),some cs=>match Nat.beq cs.length size&&Nat.ble (off+size) cells.length with
     | true=>al place (cells.take off++(cs++cells.drop (off+size))) rest
     | false=>none
   | _,_=>none
def Sv (st:AB T) (key:List GL):List (Nat×Operand)→Option (List (Nat×DV T))
 | []=>some []
 | (i,x)::r=>match st.arg key x,Sv st key r with
   | some v,some vs=>some ((i,v)::vs)
   | _,_=>none
def am:List (DV T)→Option (List (DC T))
 | []=>some []
 | .c x::vs=>match am vs with
   | some cs=>some (x::cs)
   | none=>none
 | _=>none
def kp (P:Program) (t:TypeId) (key:List GL) (st:AB T) (ps:List (Nat×Operand)):M (DV T):=
 match cB P t,Sv st key ps with
 | some z,some vs=>match al (xn P t) z vs with
   | some cs=>mIf (Ov P t) (.ret (.agg cs))
   | none=> .no
 | _,_=> .no
def Ms (P:Program) (key:List GL) (st:AB T):Op→M (DV T)
 | .move x=> .sm (st.arg key x)
 | .assign x=> .sm (st.arg key x)
 | .pick c a b=>match st.arg key c with
   | some (.c (.k .bool p))=>qP key (WU st c) p (st.ev a) (st.ev b)
   | _=> .no
 | .load t x=>match st.arg key x with
   | some v=>nm P t key st v
   | none=> .no
 | .binOp op t x y _=>match st.arg key x,st.arg key y with
   | some u,some v=>wh P op t key (BR x||BR y) (qS y) (qT y) u v
   | _,_=> .no
 | .unOp op _ x=>match st.arg key x with
   | some v=>zh op v
   | none=> .no
 | .convert src dst x=>match st.arg key x with
   | some v=>qY P src dst v
   | none=> .no
 | .slice t x lo hi none=>match st.arg key x,tL st key lo,tL st key hi with
   | some v,some l,some h=>wi P t key v l h
   | _,_,_=> .no
 | .fieldAddr s x f=>match st.arg key x with
   | some v=>qZ P s f v
   | none=> .no
 | .field t x f=>match st.arg key x with
   | some v=>kn P t f v
   | none=> .no
 | .indexAddr t x i=>match st.arg key x,st.arg key i with
   | some u,some v=>wj P t key st u v
   | _,_=> .no
 | .index t x i=>match st.arg key x,st.arg key i with
   | some u,some v=>rc P t key u v
   | _,_=> .no
 | .extract x i=>match st.arg key x with
   | some v=>wl i v
   | none=> .no
 | .nilCheck x=>match st.arg key x with
   | some v=>rf v
   | none=> .no
 | .build t ps=>kp P t key st ps.toList
 | .makeFunc (.func f) ⟨[]⟩ caps=>match IS st key caps.toList with
   | some vs=>match am vs with
     | some cs=> .ret (.c (.clo false f cs))
     | none=> .no
   | none=> .no
 | .makeFunc (.func f) ⟨x::xs⟩ ⟨[]⟩=>match IS st key (x::xs)with
   | some vs=>match am vs with
     | some cs=> .ret (.c (.clo true f cs))
     | none=> .no
   | none=> .no
 | .call c=>match c.callee with
   | .builtin b=>match b,c.args.toList,c.argTypes.toList with
     | .len,[x],[t]=>match st.arg key x with
       | some v=>wm P t st v
       | none=> .no
     | .min,xs,_=>match IS st key xs with
       | some vs=>match Ul vs with
         | some (k,x,ys)=> .ret (vg k x ys)
         | none=> .no
       | none=> .no
     | .max,xs,_=>match IS st key xs with
       | some vs=>match Ul vs with
         | some (k,x,ys)=> .ret (vh k x ys)
         | none=> .no
       | none=> .no
     | _,_,_=> .no
   | _=> .no
 | _=> .no
end Go.PL
namespace Go.PL
open Go Go.RowKit
variable {T:C6}
section
variable {H:A0 T} {P:Program} {st:AB T} {key:List GL}
theorem wn {op:UnOp} {x:DV T} {g:Prop} {nx:Nat}:Yl (zh op x) (fun v=>g→v.ok H nx∧(sU op x.toV).1∧(sU op x.toV).2=v.toV):=by
 unfold zh
 split
 ·split
  ·exact Yl.ret fun _=>⟨by simp only [DV.ok,DC.ok],trivial,rfl⟩
  ·exact Yl.ret fun _=>⟨by simp only [DV.ok,DC.ok],trivial,rfl⟩
  ·exact Yl.no
 ·split
  ·exact Yl.ret fun _=>⟨by simp only [DV.ok,DC.ok],trivial,rfl⟩
  ·exact Yl.no
 ·exact Yl.no
theorem rh {s d:TypeId} {x:DV T} {g:Prop} {nx:Nat} {z:St}:Yl (qY P s d x) (fun v=>g→v.ok H nx∧(IJ P s d z x.toV).1∧(IJ P s d z x.toV).2=v.toV):=by
 unfold qY
 split
 ·split
  ·rename_i k hk
   refine Yl.mIf fun hb=>Yl.ret fun _=>⟨by simp only [DV.ok,DC.ok],?_⟩
   simp only [DV.toV,DC.toC,Ca,IJ,hk]
   exact⟨hb,trivial⟩
  ·exact Yl.no
 ·refine Yl.mIf fun hb=>Yl.ret fun _=>⟨by simp only [DV.ok,DC.ok],?_⟩
  simp only [Bool.and_eq_true]at hb
  exact⟨hb,rfl⟩
 ·exact Yl.no
theorem NP (hw:BW H st) (hk:FC H st.nx key) {x:Option Operand} {o:Option Int} (h:tL st key x=some o) (hc:Br key=true):
 (CA st.toSt (Br key) x).1∧((o=none∧(CA st.toSt (Br key) x).2=none)∨ ∃ k n,o=some n∧(CA st.toSt (Br key) x).2=some (.c (.int k n))):=by
 unfold tL at h
 split at h
 ·injection h with h;subst h;exact⟨trivial, .inl ⟨rfl,rfl⟩⟩
 ·split at h
  ·rename_i y k n hy
   injection h with h;subst h
   obtain⟨_,a,b⟩:=AB.arg_spec hw hk hy hc
   exact⟨a, .inr ⟨k,n,rfl,by simp only [CA,b];rfl⟩⟩
  ·cases h
theorem nr {len:Nat} {lo hi:Option Int} {a b:Option V} (ha:(lo=none∧a=none)∨ ∃ k n,lo=some n∧a=some (.c (.int k n))) (hb:(hi=none∧b=none)∨ ∃ k n,hi=some n∧b=some (.c (.int k n))):
 YH len a b=some (lo.getD 0,hi.getD len):=by
 rcases ha with ⟨rfl,rfl⟩ | ⟨k,n,rfl,rfl⟩<;>rcases hb with ⟨rfl,rfl⟩ | ⟨k',n',rfl,rfl⟩<;>rfl
theorem ri {s:List UInt8} {lo hi:Option Int}:Yl (vd (T:=T) key s lo hi) (fun v=>Br key=true→ ∃ r,ssub s (lo.getD 0) (hi.getD s.length)=some r∧v= .c (.k .str r)):=
 Yl.opt fun r hr=>Yl.ret fun hc=>⟨r,WO hr hc,rfl⟩
theorem rj {E:Nat} {l:List (T.den E)} {lo hi:Option Int}:Yl (ve key E l lo hi) (fun v=>Br key=true→ ∃ r,lsub l (lo.getD 0) (hi.getD l.length)=some r∧v= .c (.k (.lst E) r)):=
 Yl.opt fun r hr=>Yl.ret fun hc=>⟨r,WO hr hc,rfl⟩
theorem tM {t:TypeId} {x:DV T} {lo hi:Option Int} {a b:Option V} (ha:Br key=true→(lo=none∧a=none)∨ ∃ k n,lo=some n∧a=some (.c (.int k n))) (hb:Br key=true→(hi=none∧b=none)∨ ∃ k n,hi=some n∧b=some (.c (.int k n))) {nx:Nat}:
 Yl (wi P t key x lo hi) (fun v=>Br key=true→v.ok H nx∧(FE P t x.toV a b).1∧(FE P t x.toV a b).2=v.toV):=by
 unfold wi
 split
 ·rename_i s
  refine Yl.mIf fun hs=>ri.mono fun v hv hc=>?_
  obtain⟨r,h1,rfl⟩:=hv hc
  have hB:=nr (len:=List.length (α:=UInt8) s) (ha hc) (hb hc)
  refine⟨by simp only [DV.ok,DC.ok],?_⟩
  simp only [DV.toV,DC.toC,Ca,FE]
  erw [hB]
  exact⟨⟨hs,vT h1⟩,by rw [vU h1]⟩
 ·rename_i E l
  split
  ·rename_i e n hsel
   refine Yl.mIf fun hs=>rj.mono fun v hv hc=>?_
   obtain⟨r,h1,rfl⟩:=hv hc
   have hn:n=T.sz E:=Nat.eq_of_beq_eq_true hs
   subst hn
   have hB:=nr (len:=List.length (α:=T.den E) l) (ha hc) (hb hc)
   refine⟨by simp only [DV.ok,DC.ok],?_⟩
   simp only [DV.toV,DC.toC,Ca,FE,hsel]
   erw [hB]
   obtain⟨q1,q2,q3⟩:=cx h1
   refine⟨⟨q1,q2,q3,flat_len' (fun y=>F5 E y) l⟩,?_⟩
   exact v8 h1 (fun y=>F5 E y)
  ·exact Yl.no
 ·exact Yl.no
theorem rk {s:TypeId} {f:Nat} {x:DV T} {g:Prop} {nx:Nat} (hx:g→x.ok H nx):Yl (qZ P s f x) (fun v=>g→v.ok H nx∧(BY P s f x.toV).1∧(BY P s f x.toV).2=v.toV):=by
 unfold qZ
 split
 ·rename_i o ag n hf
  refine Yl.mIf fun hb=>?_
  have hb':0<n:=by simpa using hb
  split
  ·refine Yl.ret fun _=>⟨by simp only [DV.ok,DC.ok],?_⟩
   simp only [DV.toV,DC.toC,BY,hf];exact⟨hb',trivial⟩
  ·refine Yl.ret fun hg=>⟨by simpa only [DV.ok,DC.ok] using hx hg,?_⟩
   simp only [DV.toV,DC.toC,BY,hf,Nat.add_assoc];exact⟨hb',trivial⟩
  ·refine Yl.ret fun hg=>⟨by simp only [DV.ok,DC.ok],?_⟩
   simp only [DV.toV,DC.toC,BY,hf,Nat.add_assoc];exact⟨hb',trivial⟩
  ·refine Yl.ret fun hg=>⟨by simp only [DV.ok,DC.ok],?_⟩
   simp only [DV.toV,DC.toC,BY,hf,Nat.add_assoc];exact⟨hb',trivial⟩
  ·exact Yl.no
 ·exact Yl.no
theorem oN {t:TypeId} {f:Nat} {x:DV T} {g:Prop} {nx:Nat} (hx:g→x.ok H nx):Yl (kn P t f x) (fun v=>g→v.ok H nx∧(HA P t f x.toV).1∧(HA P t f x.toV).2=v.toV):=by
 unfold kn
 split
 ·split
  ·rename_i cs o ag n hf
   refine Yl.mIf fun hb=>Yl.ret fun hg=>⟨JW _ _ _ (by simpa only [DV.ok] using hx hg),?_⟩
   obtain⟨h1,h2⟩:=EQ hb
   simp only [DV.toV,HA,hf,JV,Bf]
   exact⟨⟨h1,h2⟩,trivial⟩
  ·exact Yl.no
 ·exact Yl.no
theorem Ql {E:Nat} {l:List (T.den E)} {i:Int} {f:T.den E→DV T}:Yl (f0 key E l i f) (fun v=>Br key=true→ ∃ x,idx l i=some x∧v=f x):=
 Yl.opt fun r hr=>Yl.ret fun hc=>⟨r,WO hr hc,rfl⟩
theorem tN {t:TypeId} {x y:DV T} {nx:Nat}:Yl (wj P t key st x y) (fun v=>Br key=true→v.ok H nx∧(B9 P t st.toSt x.toV y.toV).1∧(B9 P t st.toSt x.toV y.toV).2=v.toV):=by
 unfold wj
 split
 ·rename_i k i
  split
  ·rename_i E l
   split
   ·rename_i e n hs
    refine Yl.mIf fun hn=>Ql.mono fun v hv hc=>?_
    have hn:n=T.sz E:=Nat.eq_of_beq_eq_true hn
    subst hn
    obtain⟨x,h1,rfl⟩:=hv hc
    refine⟨by simpa only [DV.ok,DC.ok] using h1,?_⟩
    simp only [DV.toV,DC.toC,Ca,B9,hs,Nat.add_zero]
    exact⟨BS h1,trivial⟩
   ·exact Yl.no
  ·rename_i id
   split
   ·rename_i e n E l hs hb
    refine Ql.mono fun v hv hc=>?_
    obtain⟨x,h1,rfl⟩:=hv hc
    refine⟨by simp only [DV.ok,DC.ok],?_⟩
    simp only [DV.toV,DC.toC,Ca,B9,hs,(DM hb).2.1,Nat.add_zero]
    exact⟨BS h1,trivial⟩
   ·exact Yl.no
  ·rename_i id off
   split
   ·rename_i m e n cs hs hb
    split
    ·rename_i l hl
     refine Yl.mIf fun hn=>Ql.mono fun v hv hc=>?_
     simp only [Bool.and_eq_true,Nat.beq_eq,Nat.ble_eq]at hn
     obtain⟨hn,_⟩:=hn
     subst hn
     obtain⟨x,h1,rfl⟩:=hv hc
     refine⟨by simp only [DV.ok,DC.ok],?_⟩
     simp only [DV.toV,DC.toC,Ca,B9,hs,Nat.add_zero]
     have:=BS h1
     rw [(EP hl).1]at this
     exact⟨this,trivial⟩
    ·exact Yl.no
   ·exact Yl.no
  ·exact Yl.no
 ·exact Yl.no
theorem rl {s:List UInt8} {i:Int}:Yl (vf (T:=T) key s i) (fun v=>Br key=true→ ∃ r,sidx s i=some r∧v= .c (.k (.int .u8) r)):=
 Yl.opt fun r hr=>Yl.ret fun hc=>⟨r,WO hr hc,rfl⟩
theorem rm {t:TypeId} {x y:DV T} {nx:Nat}:Yl (rc P t key x y) (fun v=>Br key=true→v.ok H nx∧(GN P t x.toV y.toV).1∧(GN P t x.toV y.toV).2=v.toV):=by
 unfold rc
 split
 ·rename_i k i
  split
  ·rename_i s
   refine Yl.mIf fun hs=>rl.mono fun v hv hc=>?_
   obtain⟨r,h1,rfl⟩:=hv hc
   refine⟨by simp only [DV.ok,DC.ok],?_⟩
   simp only [DV.toV,DC.toC,Ca,GN]
   exact⟨⟨hs,vQ h1⟩,by rw [vR h1]⟩
  ·rename_i cs
   split
   ·rename_i m e n hs
    split
    ·rename_i ag n' l ht hl
     refine Yl.mIf fun hn=>Ql.mono fun v hv hc=>?_
     simp only [Bool.and_eq_true,Nat.beq_eq,Nat.blt_eq]at hn
     obtain⟨hn,h0,hlen⟩:=hn
     subst hn
     obtain⟨x,h1,rfl⟩:=hv hc
     obtain⟨hl1,r,hl2⟩:=EP hl
     have:=qx (cs:=A2 cs) (pre:=[]) (post:=r) (base:=0) (e:=T.enc e) (N:=T.sz e) (o:=0) (n:=T.sz e) (ag:=ag) (v:=(HU (T:=T) ag 0 (T.sz e) (km e x)).toV) (off:=i.toNat*T.sz e)
      (by rw [hl2];rfl) rfl h1 (fun y=>F5 e y) (by omega) (by omega) (.inr h0) (by rw [JV,HS])
     refine⟨JW _ _ _ (Pi e x),?_⟩
     have hb:=BS h1
     rw [hl1]at hb
     simp only [DV.toV,DC.toC,Ca,GN,hs,ht]
     exact⟨⟨hb.1,hb.2,this.1,h0⟩,this.2⟩
    ·exact Yl.no
   ·exact Yl.no
  ·exact Yl.no
 ·exact Yl.no
theorem ao: ∀ (vs:List (DV T)) (i:Nat),(Bx vs).getD i .undef =(vs.getD i .u).toV
 | [],_=>by simp [Bx,DV.toV]
 | v::vs,0=>by simp [Bx]
 | v::vs,i+1=>by simpa [Bx] using ao vs i
theorem Gr (vs:List (DV T)):(Bx vs).length =vs.length:=by simp [Mp]
theorem tO {i:Nat} {x:DV T} {g:Prop} {nx:Nat} (hx:g→x.ok H nx):Yl (wl i x) (fun v=>g→v.ok H nx∧(nZ i x.toV).1∧(nZ i x.toV).2=v.toV):=by
 unfold wl
 split
 ·rename_i vs
  refine Yl.mIf fun hb=>Yl.ret fun hg=>⟨?_,?_⟩
  ·have:=hx hg
   simp only [DV.ok]at this
   rw [List.getD_eq_getElem?_getD]
   cases h:vs[i]? with
   | none=>simp [DV.ok]
   | some v=>exact HQ.1 this v (List.mem_of_getElem? h)
  ·simp only [DV.toV,nZ,ao,Gr]
   exact⟨by simpa using hb,trivial⟩
 ·exact Yl.no
theorem rn {x:DV T} {g:Prop} {nx:Nat} (hx:g→x.ok H nx):Yl (rf x) (fun v=>g→v.ok H nx∧(U4 x.toV).1∧(U4 x.toV).2=v.toV):=by
 unfold rf
 split
 ·exact Yl.ret fun hg=>⟨hx hg,trivial,rfl⟩
 ·exact Yl.ret fun hg=>⟨hx hg,trivial,rfl⟩
 ·exact Yl.ret fun hg=>⟨hx hg,by simp only [DV.toV,DC.toC,U4],by simp only [DV.toV,DC.toC,U4]⟩
 ·exact Yl.ret fun hg=>⟨hx hg,by simp only [DV.toV,DC.toC,U4],by simp only [DV.toV,DC.toC,U4]⟩
 ·exact Yl.ret fun hg=>⟨hx hg,by simp only [DV.toV,DC.toC,U4],by simp only [DV.toV,DC.toC,U4]⟩
 ·rename_i b f cs
  refine Yl.ret fun hg=>⟨hx hg,?_⟩
  cases b<;>simp only [DV.toV,DC.toC,U4]<;>exact⟨trivial,trivial⟩
 ·exact Yl.no
theorem tP {t:TypeId} {x:DV T} {nx:Nat} {g:Prop}:Yl (wm P t st x) (fun v=>g→v.ok H nx∧(O2 P t st.toSt x.toV).1∧(O2 P t st.toSt x.toV).2=v.toV):=by
 unfold wm
 split
 ·exact Yl.mIf fun hb=>Yl.ret fun _=>⟨by simp only [DV.ok,DC.ok],hb,rfl⟩
 ·exact Yl.mIf fun hb=>Yl.ret fun _=>⟨by simp only [DV.ok,DC.ok],hb,rfl⟩
 ·split
  ·rename_i id E l hr
   refine Yl.mIf fun hb=>Yl.ret fun _=>⟨by simp only [DV.ok,DC.ok],?_⟩
   simp only [DV.toV,DC.toC,Ca,O2,(DM hr).2.1]
   exact⟨hb,trivial⟩
  ·exact Yl.no
 ·split
  ·rename_i k e n ha
   refine Yl.ret fun _=>⟨by simp only [DV.ok,DC.ok],?_⟩
   simp only [DV.toV,DC.toC,Ca,O2,ha]
   exact⟨trivial,trivial⟩
  ·exact Yl.no
 ·split
  ·rename_i k e n ha
   refine Yl.ret fun _=>⟨by simp only [DV.ok,DC.ok],?_⟩
   simp only [DV.toV,DC.toC,Ca,O2,ha]
   exact⟨trivial,trivial⟩
  ·exact Yl.no
 ·exact Yl.no
theorem Da (hw:BW H st) (hk:FC H st.nx key) (hc:Br key=true): ∀ {xs:List Operand} {vs:List (DV T)},IS st key xs=some vs→
 Dk H st.nx vs∧(st.toSt.args (Br key) xs).1∧(st.toSt.args (Br key) xs).2=Bx vs
 | [],vs,h=>by simp [IS]at h;subst h;simp [Dk,St.args,Bx]
 | x::xs,vs,h=>by
   unfold IS at h
   split at h
   ·rename_i v vs' h1 h2
    injection h with h;subst h
    obtain⟨a,b,c⟩:=AB.arg_spec hw hk h1 hc
    obtain⟨a',b',c'⟩:=Da hw hk hc h2
    simp only [Dk,St.args,Bx,c,c']
    exact⟨⟨a,a'⟩,⟨b,b'⟩,trivial⟩
   ·cases h
theorem Pj: ∀ {vs:List (DV T)} {r:IntKind×Int×List Int},Ul vs=some r→GO (Bx vs)=some r
 | [],_,h=>by simp [Ul]at h
 | [v],r,h=>by
   unfold Ul at h
   split at h
   ·rename_i k x he
    injection he with he;subst he
    injection h with h;subst h
    rfl
   ·rename_i k x vs' hne he
    injection he with h1 h2
    subst h2
    simp [Ul]at h
   ·cases h
 | v::v'::vs,r,h=>by
   unfold Ul at h
   split at h
   ·rename_i he;cases he
   ·rename_i k x vs' _ he
    injection he with h1 h2
    subst h1 h2
    split at h
    ·rename_i k' y ys h3
     injection h with h;subst h
     have:=Pj h3
     have h4: ∀ z:Int,Bx (DV.c (T:=T) (.k (.int k) z)::v'::vs)= .c (.int k z)::v'.toV::Bx vs:=fun z=>by simp only [Bx,DV.toV,DC.toC,Ca]
     have h5:Bx (v'::vs)=v'.toV::Bx vs:=by simp only [Bx]
     rw [h5]at this
     refine(congrArg GO (h4 x)).trans ?_
     simp only [GO,this]
    ·cases h
   ·cases h
theorem f5 {v:Value} {c:DC T} (h:ko v=some c):Wg v=some c.toC∧c.ok:=by
 unfold ko at h
 split at h
 ·injection h with h;subst h;exact⟨rfl,by simp only [DC.ok]⟩
 ·injection h with h;subst h;exact⟨rfl,by simp only [DC.ok]⟩
 ·injection h with h;subst h;exact⟨rfl,by simp only [DC.ok]⟩
 ·split at h
  ·rename_i c' hc
   injection h with h;subst h
   exact⟨by rw [hc];simp only [DC.toC],by simp only [DC.ok]⟩
  ·cases h
theorem Qm: ∀ {vs:List Value} {cs:List (DC T)},Qk vs=some cs→G3 vs=some (A2 cs)∧Cm cs
 | [],cs,h=>by simp [Qk]at h;subst h;simp [G3,A2,Cm]
 | v::vs,cs,h=>by
   unfold Qk at h
   split at h
   ·rename_i c cs' h1 h2
    injection h with h;subst h
    obtain⟨a,b⟩:=f5 h1
    obtain⟨a',b'⟩:=Qm h2
    simp [G3,a,a',A2,Cm,b,b']
   ·cases h
theorem Um {t:TypeId} {cs:List (DC T)} (h:cB P t=some cs):TY P t=some (A2 cs)∧Cm cs:=by
 unfold cB at h
 unfold TY
 split at h
 ·rename_i i hi
  split at h
  ·rename_i z hz
   simp only [hi,hz]
   exact Qm h
  ·cases h
 ·cases h
theorem DV.cells_spec {v:DV T} {cs:List (DC T)} (h:v.cells=some cs):v.toV.cells=some (A2 cs)∧(∀ {H:A0 T} {nx:Nat},v.ok H nx→Cm cs):=by
 unfold DV.cells at h
 split at h
 ·injection h with h;subst h;exact⟨by simp [DV.toV,V.cells,A2],fun hv=>by simpa [Cm,DV.ok] using hv⟩
 ·injection h with h;subst h;exact⟨by simp [DV.toV,V.cells],fun hv=>by simpa only [DV.ok] using hv⟩
 ·cases h
def tQ (l:List (Nat×DV T)):List (Nat×V):=l.map fun x=>(x.1,x.2.toV)
theorem Mt (hw:BW H st) (hk:FC H st.nx key) (hc:Br key=true): ∀ {ps:List (Nat×Operand)} {vs:List (Nat×DV T)},Sv st key ps=some vs→
 (∀ x∈vs,x.2.ok H st.nx)∧(st.toSt.parts (Br key) ps).1∧(st.toSt.parts (Br key) ps).2=tQ vs
 | [],vs,h=>by simp [Sv]at h;subst h;simp [St.parts,tQ]
 | (i,x)::r,vs,h=>by
   unfold Sv at h
   split at h
   ·rename_i v vs' h1 h2
    injection h with h;subst h
    obtain⟨a,b,c⟩:=AB.arg_spec hw hk h1 hc
    obtain⟨a',b',c'⟩:=Mt hw hk hc h2
    simp only [St.parts,tQ,c,c',List.map_cons]
    refine⟨fun y hy=>?_,⟨b,b'⟩,trivial⟩
    rcases List.mem_cons.1 hy with rfl | hy
    ·exact a
    ·exact a' y hy
   ·cases h
theorem Pk {place:Nat→Option (Nat×Nat)}: ∀ {vs:List (Nat×DV T)} {cells cs:List (DC T)},al place cells vs=some cs→
 HD place (A2 cells) (tQ vs)=some (A2 cs)∧ ∀ {H:A0 T} {nx:Nat},Cm cells→(∀ x∈vs,x.2.ok H nx)→Cm cs
 | [],cells,cs,h=>by simp [al]at h;subst h;exact⟨rfl,fun hc _=>hc⟩
 | (i,v)::rest,cells,cs,h=>by
   unfold al at h
   split at h
   ·rename_i off size ds h1 h2
    split at h
    ·rename_i hb
     simp only [Bool.and_eq_true,Nat.beq_eq,Nat.ble_eq]at hb
     obtain⟨a,b⟩:=DV.cells_spec h2
     obtain⟨a',b'⟩:=Pk h
     refine⟨?_,fun hc hv=>b' (CL (NM hc _) (CL (b (hv (i,v) (by simp))) (NN hc _))) (fun x hx=>hv x (by simp [hx]))⟩
     simp only [tQ,List.map_cons,HD,h1,a]
     rw [if_pos (by rw [Bf,Bf];exact hb)]
     rw [←a',B4,B4,Hm,EO,List.append_assoc]
     rfl
    ·cases h
   ·cases h
theorem Pl: ∀ {vs:List (DV T)} {cs:List (DC T)},am vs=some cs→cf (Bx vs)=some (A2 cs)∧ ∀ {H:A0 T} {nx:Nat},Dk H nx vs→Cm cs
 | [],cs,h=>by simp [am]at h;subst h;exact⟨by simp [Bx,cf,A2],fun _=>by simp [Cm]⟩
 | v::vs,cs,h=>by
   unfold am at h
   split at h
   ·cases ‹_=([]:List (DV T))›
   ·rename_i x vs' he
    injection he with h1 h2;subst h1 h2
    split at h
    ·rename_i cs' hcs
     injection h with h;subst h
     obtain⟨a,b⟩:=Pl hcs
     refine⟨by simp [Bx,DV.toV,cf,a,A2],fun hv=>?_⟩
     simp only [Dk,DV.ok]at hv
     simp only [Cm]
     exact⟨hv.1,b hv.2⟩
    ·cases h
   ·cases h
theorem oO (hw:BW H st) (hk:FC H st.nx key) {t:TypeId} {ps:List (Nat×Operand)}:
 Yl (kp P t key st ps) (fun v=>Br key=true→v.ok H st.nx∧(Mb P st.toSt (Br key) t ps).1∧(Mb P st.toSt (Br key) t ps).2=v.toV):=by
 unfold kp
 split
 ·rename_i z vs hz hp
  split
  ·rename_i cs hf
   refine Yl.mIf fun ho=>Yl.ret fun hc=>?_
   obtain⟨a,b⟩:=Um hz
   obtain⟨p1,p2,p3⟩:=Mt hw hk hc hp
   obtain⟨q1,q2⟩:=Pk hf
   refine⟨by simp only [DV.ok];exact q2 b p1,?_⟩
   simp only [Mb,a,p3,q1,DV.toV]
   exact⟨⟨p2,ho⟩,trivial⟩
  ·exact Yl.no
 ·exact Yl.no
theorem ro {y:Operand} {v:DV T} (h:st.arg key y=some v):u0 (qS y) (qT y) v:=by
 intro k b hv
 subst hv
 have hc: ∀ (k':IntKind) (n:Int),y= .const (.int k' n)→b=n:=by
  intro k' n e
  subst e
  unfold AB.arg at h
  simp only [AB.ev,So,Uf,Option.some.injEq,DV.c.injEq]at h
  injection h with h1 h2
  injection h1 with h1
  subst h1
  exact h2.symm
 constructor
 ·intro h1
  unfold qS at h1
  split at h1
  ·rename_i k' n
   rw [hc k' n rfl]
   simpa using h1
  ·cases h1
 ·intro h1
  unfold qT at h1
  split at h1
  ·rename_i k' n
   rw [hc k' n rfl]
   simpa using h1
  ·cases h1
theorem Qn (hw:BW H st) (hk:FC H st.nx key) (op:Op):Yl (Ms P key st op) (Rd H P st key op):=by
 have A: ∀ {x:Operand} {v:DV T},st.arg key x=some v→Br key=true→v.ok H st.nx∧(st.toSt.arg (Br key) x).1∧(st.toSt.arg (Br key) x).2=v.toV:=fun h hc=>AB.arg_spec hw hk h hc
 unfold Ms
 split
 ·exact Yl.sm fun v hv hc=>A hv hc
 ·exact Yl.sm fun v hv hc=>A hv hc
 ·rename_i c a b
  split
  ·rename_i p hp
   refine(qV hw hk hp).mono fun v hv hc=>?_
   obtain⟨q0,q1,q2⟩:=hv hc
   obtain⟨_,k1,k2⟩:=A hp hc
   simp only [DV.toV,DC.toC,Ca]at k2
   refine⟨q0,?_⟩
   simp only [En,rd,bnd,k2]
   exact⟨⟨k1,q1⟩,q2⟩
  ·exact Yl.no
 ·rename_i t x
  split
  ·rename_i v hx
   refine(fZ hw (fun hc=>(A hx hc).1)).mono fun r hr hc=>?_
   obtain⟨q0,q1,q2⟩:=hr hc
   obtain⟨_,k1,k2⟩:=A hx hc
   refine⟨q0,?_⟩
   simp only [En,rd,bnd,k2]
   exact⟨⟨k1,q1⟩,q2⟩
  ·exact Yl.no
 ·rename_i op t x y ty
  split
  ·rename_i u v hx hy
   refine(tK (H:=H) (st:=st) (ro hy)).mono fun r hr hc=>?_
   obtain⟨q0,q1,q2⟩:=hr hc
   obtain⟨_,k1,k2⟩:=A hx hc
   obtain⟨_,k3,k4⟩:=A hy hc
   refine⟨q0,?_⟩
   have e:En P st.toSt (Br key) (.binOp op t x y ty)=((st.toSt.arg (Br key) x).1∧(st.toSt.arg (Br key) y).1∧(KE P op t (BR x||BR y) (st.toSt.arg (Br key) x).2 (st.toSt.arg (Br key) y).2).1,(KE P op t (BR x||BR y) (st.toSt.arg (Br key) x).2 (st.toSt.arg (Br key) y).2).2):=by
    simp only [En]
    unfold KE
    split
    ·rename_i cs ds e1 e2;simp only [e1,e2]
    ·rename_i hne
     split
     ·rename_i cs ds e1 e2;exact(hne cs ds e1 e2).elim
     ·rfl
   rw [e,k2,k4]
   exact⟨⟨k1,k3,q1⟩,q2⟩
  ·exact Yl.no
 ·rename_i op t x
  split
  ·rename_i v hx
   refine(wn (H:=H) (g:=Br key=true) (nx:=st.nx)).mono fun r hr hc=>?_
   obtain⟨q0,q1,q2⟩:=hr hc
   obtain⟨_,k1,k2⟩:=A hx hc
   refine⟨q0,?_⟩
   simp only [En,rd,bnd,k2]
   exact⟨⟨k1,q1⟩,q2⟩
  ·exact Yl.no
 ·rename_i s d x
  split
  ·rename_i v hx
   refine(rh (H:=H) (g:=Br key=true) (nx:=st.nx) (z:=st.toSt)).mono fun r hr hc=>?_
   obtain⟨q0,q1,q2⟩:=hr hc
   obtain⟨_,k1,k2⟩:=A hx hc
   refine⟨q0,?_⟩
   simp only [En,rd,bnd,k2]
   exact⟨⟨k1,q1⟩,q2⟩
  ·exact Yl.no
 ·rename_i t x lo hi
  split
  ·rename_i v l h hx hl hh
   refine(tM (H:=H) (nx:=st.nx) (a:=(CA st.toSt (Br key) lo).2) (b:=(CA st.toSt (Br key) hi).2) (fun hc=>(NP hw hk hl hc).2) (fun hc=>(NP hw hk hh hc).2)).mono fun r hr hc=>?_
   obtain⟨q0,q1,q2⟩:=hr hc
   obtain⟨_,k1,k2⟩:=A hx hc
   refine⟨q0,?_⟩
   simp only [En,rd,bnd,k2]
   exact⟨⟨k1,(NP hw hk hl hc).1,(NP hw hk hh hc).1,q1⟩,q2⟩
  ·exact Yl.no
 ·rename_i s x f
  split
  ·rename_i v hx
   refine(rk (H:=H) (g:=Br key=true) (nx:=st.nx) (fun hc=>(A hx hc).1)).mono fun r hr hc=>?_
   obtain⟨q0,q1,q2⟩:=hr hc
   obtain⟨_,k1,k2⟩:=A hx hc
   refine⟨q0,?_⟩
   simp only [En,rd,bnd,k2]
   exact⟨⟨k1,q1⟩,q2⟩
  ·exact Yl.no
 ·rename_i t x f
  split
  ·rename_i v hx
   refine(oN (H:=H) (g:=Br key=true) (nx:=st.nx) (fun hc=>(A hx hc).1)).mono fun r hr hc=>?_
   obtain⟨q0,q1,q2⟩:=hr hc
   obtain⟨_,k1,k2⟩:=A hx hc
   refine⟨q0,?_⟩
   simp only [En,rd,bnd,k2]
   exact⟨⟨k1,q1⟩,q2⟩
  ·exact Yl.no
 ·rename_i t x y
  split
  ·rename_i u v hx hy
   refine(tN (H:=H) (nx:=st.nx)).mono fun r hr hc=>?_
   obtain⟨q0,q1,q2⟩:=hr hc
   obtain⟨_,k1,k2⟩:=A hx hc
   obtain⟨_,k3,k4⟩:=A hy hc
   refine⟨q0,?_⟩
   simp only [En,rd,bnd,k2,k4]
   exact⟨⟨k1,k3,q1⟩,q2⟩
  ·exact Yl.no
 ·rename_i t x y
  split
  ·rename_i u v hx hy
   refine(rm (H:=H) (nx:=st.nx)).mono fun r hr hc=>?_
   obtain⟨q0,q1,q2⟩:=hr hc
   obtain⟨_,k1,k2⟩:=A hx hc
   obtain⟨_,k3,k4⟩:=A hy hc
   refine⟨q0,?_⟩
   simp only [En,rd,bnd,k2,k4]
   exact⟨⟨k1,k3,q1⟩,q2⟩
  ·exact Yl.no
 ·rename_i x i
  split
  ·rename_i v hx
   refine(tO (H:=H) (g:=Br key=true) (nx:=st.nx) (fun hc=>(A hx hc).1)).mono fun r hr hc=>?_
   obtain⟨q0,q1,q2⟩:=hr hc
   obtain⟨_,k1,k2⟩:=A hx hc
   refine⟨q0,?_⟩
   simp only [En,rd,bnd,k2]
   exact⟨⟨k1,q1⟩,q2⟩
  ·exact Yl.no
 ·rename_i x
  split
  ·rename_i v hx
   refine(rn (H:=H) (g:=Br key=true) (nx:=st.nx) (fun hc=>(A hx hc).1)).mono fun r hr hc=>?_
   obtain⟨q0,q1,q2⟩:=hr hc
   obtain⟨_,k1,k2⟩:=A hx hc
   refine⟨q0,?_⟩
   simp only [En,rd,bnd,k2]
   exact⟨⟨k1,q1⟩,q2⟩
  ·exact Yl.no
 ·exact oO hw hk
 ·rename_i f caps
  split
  ·rename_i vs hvs
   split
   ·rename_i cs hcs
    refine Yl.ret fun hc=>?_
    obtain⟨a,b,c⟩:=Da hw hk hc hvs
    obtain⟨d,e⟩:=Pl hcs
    refine⟨by simp only [DV.ok,DC.ok];exact e a,?_⟩
    simp only [En,c,d,DV.toV,DC.toC]
    exact⟨b,trivial⟩
   ·exact Yl.no
  ·exact Yl.no
 ·rename_i f x xs
  split
  ·rename_i vs hvs
   split
   ·rename_i cs hcs
    refine Yl.ret fun hc=>?_
    obtain⟨a,b,c⟩:=Da hw hk hc hvs
    obtain⟨d,e⟩:=Pl hcs
    refine⟨by simp only [DV.ok,DC.ok];exact e a,?_⟩
    simp only [En,c,d,DV.toV,DC.toC]
    exact⟨b,trivial⟩
   ·exact Yl.no
  ·exact Yl.no
 ·rename_i c
  split
  ·rename_i b hb
   split
   ·rename_i x t h1 h2
    split
    ·rename_i v hx
     refine(tP (H:=H) (g:=Br key=true) (nx:=st.nx)).mono fun r hr hc=>?_
     obtain⟨q0,q1,q2⟩:=hr hc
     obtain⟨_,k1,k2⟩:=A hx hc
     refine⟨q0,?_⟩
     simp only [En,rd,hb,h1,h2,O5,bnd,k2]
     exact⟨⟨k1,q1⟩,q2⟩
    ·exact Yl.no
   ·split
    ·rename_i vs hvs
     split
     ·rename_i k x ys hi
      refine Yl.ret fun hc=>?_
      obtain⟨a,b',c'⟩:=Da hw hk hc hvs
      refine⟨by simp only [vg,DV.ok,DC.ok],?_⟩
      simp only [En,rd,hb,O5,c',jC,Pj hi]
      exact⟨⟨b',trivial⟩,rfl⟩
     ·exact Yl.no
    ·exact Yl.no
   ·split
    ·rename_i vs hvs
     split
     ·rename_i k x ys hi
      refine Yl.ret fun hc=>?_
      obtain⟨a,b',c'⟩:=Da hw hk hc hvs
      refine⟨by simp only [vh,DV.ok,DC.ok],?_⟩
      simp only [En,rd,hb,O5,c',jD,Pj hi]
      exact⟨⟨b',trivial⟩,rfl⟩
     ·exact Yl.no
    ·exact Yl.no
   ·exact Yl.no
  ·exact Yl.no
 ·exact Yl.no
end
end Go.PL
namespace Go.PL
open Go Go.RowKit
variable {T:C6}
def AB.put (st:AB T) (d:Option Nat) (v:DV T):AB T:=match d with
 | some d=>{st with tm:=(d,st.nx,v)::st.tm,nx:=st.nx+1}
 | none=>st
theorem gc (m d t:Nat) (v:DV T) (tm:Tm T):Bt m ((d,t,v)::tm)=(Bt m tm).set d v.toV:=by
 apply List.ext_getElem?
 intro i
 unfold Bt
 rw [List.getElem?_set]
 simp only [List.getElem?_map,List.length_map,List.length_range]
 by_cases hi:i<m
 ·rw [List.getElem?_range hi]
  simp only [Option.map_some,lk]
  by_cases hd:d=i
  ·subst hd
   simp [hi]
  ·have:Nat.beq d i=false:=by
    cases h:Nat.beq d i
    ·rfl
    ·exact absurd (Nat.eq_of_beq_eq_true h) hd
   simp [hd,this]
 ·rw [List.getElem?_eq_none (by simpa using hi)]
  by_cases hd:d=i
  ·subst hd;simp [hi]
  ·simp [hd]
theorem AB.put_toSt (st:AB T) (d:Option Nat) (v:DV T):(st.put d v).toSt =st.toSt.put d v.toV:=by
 cases d with
 | none=>rfl
 | some d=>simp only [AB.put,AB.toSt,St.put,gc]
def A0.setV (H:A0 T) (t:Nat) (v:DV T):A0 T:=⟨fun i=>if i=t then v else H.v i,H.e⟩
def A0.setE (H:A0 T) (t:Nat) (e:DE T):A0 T:=⟨H.v,fun i=>if i=t then e else H.e i⟩
theorem CR.setV (H:A0 T) (t:Nat) (v:DV T):CR t H (H.setV t v):=fun i hi=>⟨by simp only [A0.setV];rw [if_neg (by omega)],rfl⟩
theorem CR.setE (H:A0 T) (t:Nat) (e:DE T):CR t H (H.setE t e):=fun i hi=>⟨rfl,by simp only [A0.setE];rw [if_neg (by omega)]⟩
structure Nx (H:A0 T) (st:AB T) (H':A0 T) (st':AB T):Prop where
 ext:CR st.nx H H'
 le:st.nx≤st'.nx
 ok:BW H' st'
theorem Nx.refl {H:A0 T} {st:AB T} (h:BW H st):Nx H st H st:=⟨CR.refl _ _,Nat.le_refl _,h⟩
theorem Nx.trans {H H' H'':A0 T} {a b c:AB T} (h:Nx H a H' b) (k:Nx H' b H'' c):Nx H a H'' c:=⟨h.ext.trans k.ext h.le,Nat.le_trans h.le k.le,k.ok⟩
theorem E4 {H H':A0 T} {n m:Nat} (he:CR n H H') (hnm:n≤m) {l:List (DE T)} (h: ∀ e∈l,e.tag<n∧H.e e.tag=e∧e.x.ok): ∀ e∈l,e.tag<m∧H'.e e.tag=e∧e.x.ok:=fun e hm=>by
 obtain⟨a,b,c⟩:=h e hm
 exact⟨Nat.lt_of_lt_of_le a hnm,by rw [(he e.tag a).2];exact b,c⟩
theorem AB.put_nx {H:A0 T} {st:AB T} (h:BW H st) (d:Option Nat) {v:DV T} (hv:v.ok H st.nx): ∃ H',Nx H st H' (st.put d v):=by
 cases d with
 | none=>exact⟨H,Nx.refl h⟩
 | some d=>
   have he:=CR.setV H st.nx v
   refine⟨H.setV st.nx v,he,by simp [AB.put],?_,?_,?_,h.nd⟩
   ·intro s t w hm
    simp only [AB.put]at hm ⊢
    rcases List.mem_cons.1 hm with hm | hm
    ·injection hm with h1 hm;injection hm with h2 h3;subst h1 h2 h3
     exact⟨Nat.lt_succ_self _,by simp [A0.setV],DV.ok_ext he (Nat.le_succ _) hv⟩
    ·exact Ch he (Nat.le_succ _) h.tm s t w hm
   ·intro f hf
    exact Ch he (Nat.le_succ _) (h.gh f hf)
   ·exact E4 he (Nat.le_succ _) h.so
def WW (p:DV T→Bool) (f:DV T→DV T):Nat→Tm T→Tm T
 | _,[]=>[]
 | n,(s,t,v)::r=>match p v with
   | true=>(s,n,f v)::WW p f (n+1) r
   | false=>(s,t,v)::WW p f (n+1) r
def kq (p:DV T→Bool) (f:DV T→DV T):Nat→List (Nat×Tm T)→List (Nat×Tm T)
 | _,[]=>[]
 | n,(m,tm)::r=>(m,WW p f n tm)::kq p f (n+tm.length) r
def Qo:List (Nat×Tm T)→Nat
 | []=>0
 | (_,tm)::r=>tm.length+Qo r
def YN (q:DX T→Bool) (g:DX T→DX T):Nat→List (DE T)→List (DE T)
 | _,[]=>[]
 | n,e::r=>match q e.x with
   | true=>⟨e.id,n,g e.x⟩::YN q g (n+1) r
   | false=>e::YN q g (n+1) r
def AB.remap (p:DV T→Bool) (f:DV T→DV T) (q:DX T→Bool) (g:DX T→DX T) (st:AB T):AB T:=
 {st with tm:=WW p f st.nx st.tm,gh:=kq p f (st.nx+st.tm.length) st.gh,so:=YN q g (st.nx+st.tm.length+Qo st.gh) st.so,nx:=st.nx+st.tm.length+Qo st.gh+st.so.length}
section
variable {p:DV T→Bool} {f:DV T→DV T} {q:DX T→Bool} {g:DX T→DX T}
theorem VM (hf: ∀ {H:A0 T} {n:Nat} {v:DV T},v.ok H n→(f v).ok H n): ∀ (tm:Tm T) (n:Nat) (H:A0 T),Ph H n tm→ ∃ H',CR n H H'∧Ph H' (n+tm.length) (WW p f n tm)
 | [],n,H,_=>⟨H,CR.refl _ _,fun _ _ _ h=>by cases h⟩
 | (s,t,v)::r,n,H,h=>by
   obtain⟨a,b,c⟩:=h s t v (by simp)
   have hr:Ph H n r:=fun s' t' v' hm=>h s' t' v' (by simp [hm])
   unfold WW
   split
   ·have he:=CR.setV H n (f v)
    obtain⟨H',h1,h2⟩:=VM hf r (n+1) (H.setV n (f v)) (Ch he (Nat.le_succ _) hr)
    refine⟨H',he.trans h1 (Nat.le_succ _),fun s' t' v' hm=>?_⟩
    rw [show n+((s,t,v)::r).length =n+1+r.length by simp;omega]
    rcases List.mem_cons.1 hm with hm | hm
    ·injection hm with e1 hm;injection hm with e2 e3;subst e1 e2 e3
     refine⟨by omega,?_,DV.ok_ext (he.trans h1 (Nat.le_succ _)) (by omega) (hf c)⟩
     rw [(h1 t' (by omega)).1];simp [A0.setV]
    ·exact h2 s' t' v' hm
   ·obtain⟨H',h1,h2⟩:=VM hf r (n+1) H (Ch (CR.refl _ _) (Nat.le_succ _) hr)
    have h1':CR n H H':=fun i hi=>h1 i (by omega)
    refine⟨H',h1',fun s' t' v' hm=>?_⟩
    rw [show n+((s,t,v)::r).length =n+1+r.length by simp;omega]
    rcases List.mem_cons.1 hm with hm | hm
    ·injection hm with e1 hm;injection hm with e2 e3;subst e1 e2 e3
     refine⟨by omega,?_,DV.ok_ext h1' (by omega) c⟩
     rw [(h1' t' a).1];exact b
    ·exact h2 s' t' v' hm
theorem ns (hf: ∀ {H:A0 T} {n:Nat} {v:DV T},v.ok H n→(f v).ok H n): ∀ (l:List (Nat×Tm T)) (n:Nat) (H:A0 T),(∀ x∈l,Ph H n x.2)→ ∃ H',CR n H H'∧ ∀ x∈kq p f n l,Ph H' (n+Qo l) x.2
 | [],n,H,_=>⟨H,CR.refl _ _,fun _ h=>by cases h⟩
 | (m,tm)::r,n,H,h=>by
   obtain⟨H1,a,b⟩:=VM (p:=p) hf tm n H (h (m,tm) (by simp))
   obtain⟨H2,c,d⟩:=ns hf r (n+tm.length) H1 (fun x hx=>Ch a (by omega) (h x (by simp [hx])))
   refine⟨H2,a.trans c (by omega),fun x hx=>?_⟩
   have e:n+Qo ((m,tm)::r)=n+tm.length+Qo r:=by simp [Qo];omega
   rw [e]
   rcases List.mem_cons.1 hx with rfl | hx
   ·exact Ch c (by omega) b
   ·exact d x hx
theorem cC (hg: ∀ {x:DX T},x.ok→(g x).ok): ∀ (l:List (DE T)) (n:Nat) (H:A0 T),(∀ e∈l,e.tag<n∧H.e e.tag=e∧e.x.ok)→ ∃ H',CR n H H'∧ ∀ e∈YN q g n l,e.tag<n+l.length∧H'.e e.tag=e∧e.x.ok
 | [],n,H,_=>⟨H,CR.refl _ _,fun _ h=>by cases h⟩
 | e::r,n,H,h=>by
   obtain⟨a,b,c⟩:=h e (by simp)
   have hr: ∀ e∈r,e.tag<n∧H.e e.tag=e∧e.x.ok:=fun e hm=>h e (by simp [hm])
   unfold YN
   split
   ·have he:=CR.setE H n ⟨e.id,n,g e.x⟩
    obtain⟨H',h1,h2⟩:=cC hg r (n+1) (H.setE n ⟨e.id,n,g e.x⟩) (E4 he (Nat.le_succ _) hr)
    refine⟨H',he.trans h1 (Nat.le_succ _),fun x hm=>?_⟩
    rw [show n+(e::r).length =n+1+r.length by simp;omega]
    rcases List.mem_cons.1 hm with rfl | hm
    ·refine⟨by simp only;omega,?_,hg c⟩
     simp only
     rw [(h1 n (by omega)).2];simp [A0.setE]
    ·exact h2 x hm
   ·obtain⟨H',h1,h2⟩:=cC hg r (n+1) H (E4 (CR.refl _ _) (Nat.le_succ _) hr)
    have h1':CR n H H':=fun i hi=>h1 i (by omega)
    refine⟨H',h1',fun x hm=>?_⟩
    rw [show n+(e::r).length =n+1+r.length by simp;omega]
    rcases List.mem_cons.1 hm with rfl | hm
    ·exact⟨by omega,by rw [(h1' x.tag a).2];exact b,c⟩
    ·exact h2 x hm
theorem ge: ∀ (l:List (DE T)) (n:Nat),(YN q g n l).map DE.id=l.map DE.id
 | [],_=>rfl
 | e::r,n=>by
   unfold YN
   split<;>simp [ge r]
theorem AB.remap_nx {H:A0 T} {st:AB T} (h:BW H st) (hf: ∀ {H:A0 T} {n:Nat} {v:DV T},v.ok H n→(f v).ok H n) (hg: ∀ {x:DX T},x.ok→(g x).ok): ∃ H',Nx H st H' (st.remap p f q g):=by
 obtain⟨H1,a1,b1⟩:=VM (p:=p) hf st.tm st.nx H h.tm
 obtain⟨H2,a2,b2⟩:=ns (p:=p) hf st.gh (st.nx+st.tm.length) H1 (fun x hx=>Ch a1 (by omega) (h.gh x hx))
 obtain⟨H3,a3,b3⟩:=cC (q:=q) hg st.so (st.nx+st.tm.length+Qo st.gh) H2 (E4 (a1.trans a2 (by omega)) (by omega) h.so)
 have a23:CR (st.nx+st.tm.length) H1 H3:=a2.trans a3 (by omega)
 refine⟨H3,a1.trans a23 (by omega),by simp only [AB.remap];omega,?_,?_,b3,by simp only [AB.remap,ge];exact h.nd⟩
 ·exact Ch a23 (by simp only [AB.remap];omega) b1
 ·exact fun x hx=>Ch a3 (by simp only [AB.remap];omega) (b2 x hx)
theorem VN (hu:p .u =false) (i:Nat): ∀ (tm:Tm T) (n:Nat),lk (WW p f n tm) i=(match p (lk tm i)with | true=>f (lk tm i) | false=>lk tm i)
 | [],n=>by simp [WW,lk,hu]
 | (s,t,v)::r,n=>by
   unfold WW
   split
   ·rename_i hp
    simp only [lk]
    cases Nat.beq s i with
    | true=>simp only [hp]
    | false=>exact VN hu i r (n+1)
   ·rename_i hp
    simp only [lk]
    cases Nat.beq s i with
    | true=>simp only [hp]
    | false=>exact VN hu i r (n+1)
theorem gf {F:V→V} (hu:p .u =false) {tm:Tm T} (h1: ∀ i,p (lk tm i)=true→(f (lk tm i)).toV =F (lk tm i).toV) (h2: ∀ i,p (lk tm i)=false→F (lk tm i).toV =(lk tm i).toV) (m n:Nat):Bt m (WW p f n tm)=(Bt m tm).map F:=by
 unfold Bt
 rw [List.map_map]
 apply List.map_congr_left
 intro i _
 simp only [Function.comp,VN hu]
 split
 ·rename_i h;exact h1 i h
 ·rename_i h;exact(h2 i h).symm
theorem gg {F:V→V} (hu:p .u =false): ∀ {l:List (Nat×Tm T)} (n:Nat),(∀ x∈l, ∀ i,(p (lk x.2 i)=true→(f (lk x.2 i)).toV =F (lk x.2 i).toV)∧(p (lk x.2 i)=false→F (lk x.2 i).toV =(lk x.2 i).toV))→
 (kq p f n l).flatMap (fun f=>Bt f.1 f.2)=(l.flatMap fun f=>Bt f.1 f.2).map F
 | [],_,_=>rfl
 | (m,tm)::r,n,h=>by
   simp only [kq,List.flatMap_cons,List.map_append]
   rw [gg hu (n+tm.length) (fun x hx=>h x (by simp [hx])),gf hu (fun i=>(h (m,tm) (by simp) i).1) (fun i=>(h (m,tm) (by simp) i).2)]
theorem WX {F:AM→AM}: ∀ {l:List (DE T)} (n:Nat),(∀ e∈l,(q e.x=true→ ∀ t,(⟨e.id,t,g e.x⟩:DE T).toE =F e.toE)∧(q e.x=false→F e.toE=e.toE))→(YN q g n l).map DE.toE=(l.map DE.toE).map F
 | [],_,_=>rfl
 | e::r,n,h=>by
   have ih:=WX (n+1) (fun x hx=>h x (by simp [hx])) (l:=r)
   unfold YN
   split
   ·rename_i hq
    simp only [List.map_cons,ih,(h e (by simp)).1 hq]
   ·rename_i hq
    simp only [List.map_cons,ih,(h e (by simp)).2 hq]
end
theorem JY (a b:AC):Cs a b=(a==b):=by
 cases h:Cs a b with
 | true=>have:=BH.1 h;subst this;simp
 | false=>
   have:a ≠ b:=fun e=>by rw [BH.2 e]at h;cases h
   simp [this]
def tR (id:AC):C→Bool
 | .osl i=>Cs i id
 | .ptr i _=>Cs i id
 | .bsl i _ _=>Cs i id
 | .bld i _=>Cs i id
 | .mref i=>Cs i id
 | .clo _ cs=>Ck id cs
 | .bmv _ cs=>Ck id cs
 | _=>false
theorem tS (id:AC) (c:C):tR id c=c.men id:=by
 cases c<;>simp only [tR,C.men,JY]
mutual
def DC.men (id:AC):DC T→Bool
 | .c x=>tR id x
 | .rp i _ _ _=>Cs i id
 | .ap i _ _ _ _ _=>Cs i id
 | .clo _ _ cs=>Qp id cs
 | .k _ _=>false
 | .ip .. =>false
def Qp (id:AC):List (DC T)→Bool
 | []=>false
 | c::cs=>match c.men id with
   | true=>true
   | false=>Qp id cs
end
mutual
theorem DC.men_eq (id:AC): ∀ c:DC T,c.men id=c.toC.men id
 | .c x=>by simp only [DC.men,DC.toC,tS]
 | .rp .. =>by simp only [DC.men,DC.toC,C.men,JY]
 | .ap .. =>by simp only [DC.men,DC.toC,C.men,JY]
 | .clo true _ cs=>by simp only [DC.men,DC.toC,C.men,Mu id cs]
 | .clo false _ cs=>by simp only [DC.men,DC.toC,C.men,Mu id cs]
 | .k kd x=>by cases kd<;>simp only [DC.men,DC.toC,Ca,C.men]
 | .ip .. =>by simp only [DC.men,DC.toC,C.men]
theorem Mu (id:AC): ∀ cs:List (DC T),Qp id cs=Ck id (A2 cs)
 | []=>by simp only [Qp,A2,Ck]
 | c::cs=>by
   simp only [Qp,A2,Ck,DC.men_eq id c,Mu id cs]
   cases c.toC.men id<;>rfl
end
mutual
def DV.men (id:AC):DV T→Bool
 | .c x=>x.men id
 | .agg cs=>Qp id cs
 | .tup vs=>aq id vs
 | .g _ v=>v.men id
 | .u =>false
def aq (id:AC):List (DV T)→Bool
 | []=>false
 | v::vs=>match v.men id with
   | true=>true
   | false=>aq id vs
end
mutual
theorem DV.men_le (id:AC): ∀ v:DV T,v.men id=false→v.toV.men id=false
 | .c x,h=>by simpa only [DV.men,DV.toV,V.men,DC.men_eq] using h
 | .agg cs,h=>by simpa only [DV.men,DV.toV,V.men,Mu] using h
 | .tup vs,h=>by simp only [DV.men]at h;simp only [DV.toV,V.men];exact gl id vs h
 | .g k v,h=>by simp only [DV.men]at h;simp only [DV.toV,V.men,DV.men_le id v h,Bool.false_and]
 | .u,_=>by simp only [DV.toV,V.men]
theorem gl (id:AC): ∀ vs:List (DV T),aq id vs=false→Jk id (Bx vs)=false
 | [],_=>by simp only [Bx,Jk]
 | v::vs,h=>by
   simp only [aq]at h
   split at h
   ·cases h
   ·rename_i hv
    simp only [Bx,Jk,DV.men_le id v hv,gl id vs h,Bool.or_self]
end
def WY (id:AC) (c:DC T):DC T:=match c.men id with
 | true=> .c .any
 | false=>c
def DX.men (id:AC):DX T→Bool
 | .box cs=>Qp id cs
 | .row _ _=>false
def Mv (id:AC):DX T→DX T
 | .box cs=> .box (cs.map (WY id))
 | x=>x
def gm (p:DV T→Bool):Tm T→Bool
 | []=>true
 | (_,_,v)::r=>match p v with
   | true=>gm p r
   | false=>false
def nt (p:DV T→Bool):List (Nat×Tm T)→Bool
 | []=>true
 | (_,tm)::r=>match gm p tm with
   | true=>nt p r
   | false=>false
def nu (q:DX T→Bool):List (DE T)→Bool
 | []=>true
 | e::r=>match q e.x with
   | true=>nu q r
   | false=>false
theorem Pm {p:DV T→Bool} (hu:p .u =true): ∀ {tm:Tm T},gm p tm=true→ ∀ i,p (lk tm i)=true
 | [],_,i=>hu
 | (s,t,v)::r,h,i=>by
   simp only [gm]at h
   split at h
   ·rename_i hv
    simp only [lk]
    cases Nat.beq s i
    ·exact Pm hu h i
    ·exact hv
   ·cases h
theorem WZ {p:DV T→Bool} (hu:p .u =true): ∀ {l:List (Nat×Tm T)},nt p l=true→ ∀ x∈l, ∀ i,p (lk x.2 i)=true
 | [],_,x,hx,_=>by cases hx
 | (m,tm)::r,h,x,hx,i=>by
   simp only [nt]at h
   split at h
   ·rename_i hv
    rcases List.mem_cons.1 hx with rfl | hx
    ·exact Pm hu hv i
    ·exact WZ hu h x hx i
   ·cases h
theorem W0 {q:DX T→Bool}: ∀ {l:List (DE T)},nu q l=true→ ∀ e∈l,q e.x=true
 | [],_,e,he=>by cases he
 | x::r,h,e,he=>by
   simp only [nu]at h
   split at h
   ·rename_i hv
    rcases List.mem_cons.1 he with rfl | he
    ·exact hv
    ·exact W0 h e he
   ·cases h
def AB.noMen (st:AB T) (id:AC):Bool:=gm (fun v=> !(v.men id)) st.tm&&(nt (fun v=> !(v.men id)) st.gh&&nu (fun x=> !(x.men id)) st.so)
def AB.kill (st:AB T) (id:AC):Option (AB T):=match EX id||JM id with
 | true=>none
 | false=>match st.noMen id with
   | true=>some {st with so:=st.so.filter fun e=> !(Cs e.id id)}
   | false=>some (let s:=st.remap (DV.men id) (fun _=> .u) (DX.men id) (Mv id);{s with so:=s.so.filter fun e=> !(Cs e.id id)})
theorem oP {id:AC} {c:DC T} (h:c.ok):(WY id c).ok :=by
 unfold WY
 split
 ·simp only [DC.ok]
 ·exact h
theorem kr (id:AC) (c:DC T):(WY id c).toC =Gk id c.toC:=by
 unfold WY Gk
 rw [DC.men_eq]
 cases c.toC.men id<;>simp [DC.toC]
theorem Gt {α:Type} {F:α→α}: ∀ {l:List α},(∀ x∈l,F x=x)→l.map F=l
 | [],_=>rfl
 | a::l,h=>by rw [List.map_cons,h a (by simp),Gt (fun x hx=>h x (by simp [hx]))]
theorem rq {F:V→V} {m:Nat} {tm:Tm T} (h: ∀ i,F (lk tm i).toV =(lk tm i).toV):(Bt m tm).map F=Bt m tm:=by
 refine Gt fun x hx=>?_
 obtain⟨i,_,rfl⟩:=List.mem_map.1 hx
 exact h i
theorem xS {F:V→V} {l:List (Nat×Tm T)} (h: ∀ x∈l, ∀ i,F (lk x.2 i).toV =(lk x.2 i).toV):(l.flatMap fun f=>Bt f.1 f.2).map F=l.flatMap fun f=>Bt f.1 f.2:=by
 refine Gt fun x hx=>?_
 obtain⟨y,hy,hx⟩:=List.mem_flatMap.1 hx
 obtain⟨i,_,rfl⟩:=List.mem_map.1 hx
 exact h y hy i
def ar:List V→List V→Prop
 | [],[]=>True
 | x::xs,y::ys=>(y= .undef ∨y=x)∧ar xs ys
 | _,_=>False
theorem ar.append: ∀ {a b c d:List V},ar a b→ar c d→ar (a++c) (b++d)
 | [],[],_,_,_,h=>h
 | [],_::_,_,_,h,_=>h.elim
 | _::_,[],_,_,h,_=>h.elim
 | _::_,_::_,_,_,h,k=>⟨h.1,h.2.append k⟩
theorem ar.get: ∀ {a b:List V},ar a b→b.length=a.length∧ ∀ i,b.getD i .undef = .undef ∨b.getD i .undef =a.getD i .undef
 | [],[],_=>⟨rfl,fun _=> .inr rfl⟩
 | [],_::_,h=>h.elim
 | _::_,[],h=>h.elim
 | x::xs,y::ys,h=>by
   obtain⟨h1,h2⟩:=ar.get h.2
   refine⟨by simp [h1],fun i=>?_⟩
   cases i with
   | zero=>simpa using h.1
   | succ i=>simpa using h2 i
theorem ar.map {α:Type} {f g:α→V}: ∀ {l:List α},(∀ x∈l,g x= .undef ∨g x=f x)→ar (l.map f) (l.map g)
 | [],_=>trivial
 | a::l,h=>⟨h a (by simp),ar.map fun x hx=>h x (by simp [hx])⟩
theorem ar.set: ∀ {a b:List V},ar a b→ ∀ (i:Nat) (v:V),ar (a.set i v) (b.set i v)
 | [],[],_,_,_=>trivial
 | [],_::_,h,_,_=>h.elim
 | _::_,[],h,_,_=>h.elim
 | _::_,_::_,h,0,v=>⟨.inr rfl,h.2⟩
 | _::_,_::_,h,i+1,v=>⟨h.1,h.2.set i v⟩
theorem ar.of {a b:List V} (hl:b.length=a.length) (h: ∀ i,b.getD i .undef = .undef ∨b.getD i .undef =a.getD i .undef):ar a b:=by
 induction a generalizing b with
 | nil=>
   cases b with
   | nil=>trivial
   | cons y ys=>simp at hl
 | cons x xs ih=>
   cases b with
   | nil=>simp at hl
   | cons y ys=>exact⟨by simpa using h 0,ih (by simpa using hl) (fun i=>by simpa using h (i+1))⟩
theorem Cb.put {a b:St} (h:Cb a b) (d:Option Nat) (v:V):Cb (a.put d v) (b.put d v):=by
 cases d with
 | none=>exact h
 | some d=>
   have:=((ar.of h.len h.tm).set d v).get
   exact⟨this.1,this.2,h.so,h.nd,h.gh,h.pre⟩
theorem Mw {H:A0 T} {st:AB T} (h:BW H st) (p:DE T→Bool):BW H {st with so:=st.so.filter p}:=
 ⟨h.tm,h.gh,fun e he=>h.so e (List.mem_filter.1 he).1,List.Sublist.nodup (List.Sublist.map _ List.filter_sublist) h.nd⟩
theorem W1 (id:AC) (hd:EX id=false) (l:List (DE T)):(l.filter fun e=> !(Cs e.id id)).map DE.toE=(l.map DE.toE).filter (fun e=>e.id != id&& !(EX id&&JM e.id)):=by
 induction l with
 | nil=>rfl
 | cons e l ih=>
   simp only [List.filter_cons,List.map_cons,DE.toE_id,hd,Bool.false_and,Bool.not_false,Bool.and_true,JY]at ih ⊢
   cases h:e.id==id with
   | true=>simp only [bne,h,Bool.not_true,Bool.false_eq_true,if_false];exact ih
   | false=>simp only [bne,h,Bool.not_false,if_true,List.map_cons];rw [ih];rfl
theorem cD {id:AC} {e:DE T} (h:e.x.men id=false):e.toE.fre id=true:=by
 unfold AM.fre DE.toE
 cases hxx:e.x with
 | box cs=>rw [hxx]at h;simp only [DX.men,Mu]at h;simp [h]
 | row E l=>rfl
theorem kt {id:AC} {e:DE T} (t:Nat):(⟨e.id,t,Mv id e.x⟩:DE T).toE =AM.kill id e.toE:=by
 unfold DE.toE
 cases hxx:e.x with
 | box cs=>
   simp only [Mv,AM.kill,CZ,List.map_map,AM.mk.injEq,and_true,true_and]
   exact List.map_congr_left fun c _=>kr id c
 | row E l=>rfl
theorem gn (id:AC) (p:AC→Bool→Bool) (l:List AM):(l.map (AM.kill id)).filter (fun e=>e.id != id&& !(EX id&&JM e.id))=(l.filter (fun e=>e.id != id&& !(EX id&&JM e.id))).map (AM.kill id):=by
 induction l with
 | nil=>rfl
 | cons e l ih=>
   simp only [List.filter_cons,List.map_cons,AM.kill_id]
   split
   ·rw [ih,List.map_cons]
   ·exact ih
theorem go {id:AC} {m n:Nat} {tm:Tm T}:ar ((Bt m tm).map (Gl id)) (Bt m (WW (DV.men id) (fun _=> .u) n tm)):=by
 unfold Bt
 rw [List.map_map]
 refine ar.map fun i _=>?_
 simp only [Function.comp,VN (p:=DV.men id) (f:=fun _=>DV.u) (by simp [DV.men])]
 split
 ·exact .inl (by simp only [DV.toV])
 ·rename_i h;exact .inr (Qe (DV.men_le id _ h)).symm
theorem vi {id:AC}: ∀ (l:List (Nat×Tm T)) (n:Nat),ar ((l.flatMap fun f=>Bt f.1 f.2).map (Gl id)) ((kq (DV.men id) (fun _=> .u) n l).flatMap fun f=>Bt f.1 f.2)
 | [],_=>trivial
 | (m,tm)::r,n=>by
   simp only [kq,List.flatMap_cons,List.map_append]
   exact go.append (vi r _)
theorem AB.kill_spec {H:A0 T} {st st':AB T} {id:AC} (h:BW H st) (hk:st.kill id=some st'):(∃ H',Nx H st H' st')∧Cb (st.toSt.kill id) st'.toSt∧st'.toSt.so=(st.toSt.kill id).so ∧EX id=false∧JM id=false∧st'.pre=st.pre∧ ∀ e∈st'.so,e.id ≠ id:=by
 have nid: ∀ l:List (DE T), ∀ e∈l.filter (fun e=> !(Cs e.id id)),e.id ≠ id:=fun l e he q=>by
  have:=(List.mem_filter.1 he).2
  rw [BH.2 q]at this;cases this
 unfold AB.kill at hk
 split at hk
 ·cases hk
 ·rename_i hd
  simp only [Bool.or_eq_false_iff]at hd
  split at hk
  ·rename_i hn
   injection hk with hk;subst hk
   simp only [AB.noMen,Bool.and_eq_true]at hn
   obtain⟨n1,n2,n3⟩:=hn
   have k1: ∀ i,Gl id (lk st.tm i).toV =(lk st.tm i).toV :=fun i=>Qe (DV.men_le id _ (by simpa using Pm (by simp [DV.men]) n1 i))
   have k2: ∀ x∈st.gh, ∀ i,Gl id (lk x.2 i).toV =(lk x.2 i).toV :=fun x hx i=>Qe (DV.men_le id _ (by simpa using WZ (by simp [DV.men]) n2 x hx i))
   have e:(({st with so:=st.so.filter fun e=> !(Cs e.id id)}:AB T)).toSt =st.toSt.kill id:=by
    simp only [AB.toSt,St.kill,St.mk.injEq,and_true]
    refine⟨(rq k1).symm,?_,(xS k2).symm⟩
    rw [W1 id hd.1]
    refine(Gt fun e he=>?_).symm
    obtain⟨x,hx,rfl⟩:=List.mem_map.1 (List.mem_filter.1 he).1
    have:=W0 n3 x hx
    exact AM.kill_eq (cD (by simpa using this))
   exact⟨⟨H,CR.refl _ _,Nat.le_refl _,Mw h _⟩,e▸Cb.refl _,by rw [e],hd.1,hd.2,rfl,nid _⟩
  ·injection hk with hk;subst hk
   obtain⟨H',hN⟩:=AB.remap_nx (p:=DV.men id) (f:=fun _=> .u) (q:=DX.men id) (g:=Mv id) h (fun _=>by simp only [DV.ok]) (fun {x} hx=>by
    cases x with
    | box cs=>
      simp only [Mv,DX.ok]at hx ⊢
      refine Co.2 fun c hc=>?_
      obtain⟨d,h1,rfl⟩:=List.mem_map.1 hc
      exact oP (Co.1 hx d h1)
    | row E l=>exact hx)
   have hso:(((YN (DX.men id) (Mv id) (st.nx+st.tm.length+Qo st.gh) st.so).filter fun e=> !(Cs e.id id)).map DE.toE)=(st.toSt.kill id).so :=by
    rw [W1 id hd.1,WX (F:=AM.kill id) _ (fun e _=>⟨fun _ t=>kt t,fun hm=>AM.kill_eq (cD hm)⟩)]
    exact gn id (fun _ _=>true) _
   refine⟨⟨H',hN.ext,hN.le,Mw hN.ok _⟩,?_,hso,hd.1,hd.2,rfl,nid _⟩
   have a:=(go (id:=id) (m:=st.m) (n:=st.nx) (tm:=st.tm)).get
   have b:=(vi (id:=id) st.gh (st.nx+st.tm.length)).get
   exact⟨a.1,a.2,fun e he=>by rw [←hso];exact he,fun hn=>by
    have:(AB.toSt {(st.remap (DV.men id) (fun _=> .u) (DX.men id) (Mv id))with so:=(st.remap (DV.men id) (fun _=> .u) (DX.men id) (Mv id)).so.filter fun e=> !(Cs e.id id)}).so =(st.toSt.kill id).so :=hso
    rw [this];exact hn,b,rfl⟩
def AB.new (st:AB T) (id:AC) (x:DX T):Option (AB T):=match st.kill id,x.men id with
 | some s,false=>some {s with so:=⟨id,s.nx,x⟩::s.so,nx:=s.nx+1}
 | _,_=>none
theorem AB.new_spec {H:A0 T} {st st':AB T} {id:AC} {x:DX T} (h:BW H st) (hx:x.ok) (hk:st.new id x=some st'):(∃ H',Nx H st H' st')∧Cb (st.toSt.new (⟨id,0,x⟩:DE T).toE) st'.toSt∧st'.pre=st.pre:=by
 unfold AB.new at hk
 split at hk
 ·rename_i s hs hm
  injection hk with hk;subst hk
  obtain⟨⟨H',hN⟩,h2,h2',h3,h4,h5,h6⟩:=AB.kill_spec h hs
  have he:=CR.setE H' s.nx ⟨id,s.nx,x⟩
  refine⟨⟨H'.setE s.nx ⟨id,s.nx,x⟩,hN.trans ⟨he,Nat.le_succ _,?_,?_,?_,?_⟩⟩,?_,h5⟩
  ·exact Ch he (Nat.le_succ _) hN.ok.tm
  ·exact fun f hf=>Ch he (Nat.le_succ _) (hN.ok.gh f hf)
  ·intro e hm'
   rcases List.mem_cons.1 hm' with rfl | hm'
   ·exact⟨Nat.lt_succ_self _,by simp [A0.setE],hx⟩
   ·exact E4 he (Nat.le_succ _) hN.ok.so e hm'
  ·rw [List.map_cons]
   refine List.nodup_cons.2 ⟨fun hm'=>?_,hN.ok.nd⟩
   obtain⟨e,h7,h8⟩:=List.mem_map.1 hm'
   exact h6 e h7 h8
  ·have e1:(⟨id,0,x⟩:DE T).toE.id =id:=DE.toE_id _
   have e2:(⟨id,s.nx,x⟩:DE T).toE =(⟨id,0,x⟩:DE T).toE :=rfl
   have e3:AM.kill id (⟨id,0,x⟩:DE T).toE =(⟨id,0,x⟩:DE T).toE :=AM.kill_eq (cD hm)
   have e5:(st.toSt.new (⟨id,0,x⟩:DE T).toE).so =(⟨id,0,x⟩:DE T).toE ::s.toSt.so:=by
    unfold St.new
    rw [e1,e3]
    unfold ZG
    rw [e1,h3,h4,h2']
    rfl
   have e6:(AB.toSt {s with so:=⟨id,s.nx,x⟩::s.so,nx:=s.nx+1}).so =(⟨id,0,x⟩:DE T).toE ::s.toSt.so:=rfl
   have hl:=h2
   rw [show (st.toSt.kill id)=st.toSt.kill (⟨id,0,x⟩:DE T).toE.id by rw [e1]]at hl
   exact⟨hl.len,hl.tm,fun e he=>by rw [e5];rw [e6]at he;exact he,fun hn=>by rw [e6];rw [e5]at hn;exact hn,hl.gh,by show s.pre=st.pre;exact h5⟩
 ·cases hk
end Go.PL
