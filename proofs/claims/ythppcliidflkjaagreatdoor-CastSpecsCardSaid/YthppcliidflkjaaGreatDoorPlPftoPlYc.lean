/- The pure logic: PlPf, PlPg, PlPh, PlPi, PlPj, PlPk, PlPm, PlPn, PlPo, PlPp, PlPr, PlPt, PlPv, PlPz, PlPu, PlQa, Ta, Tb, Tc, Td, Te, Tf, Tg, Th, Ti, PlYa, PlYb, PlYc. -/
import Derived.Test.YthppcliidflkjaaGreatDoorPlRtoPlPe
import Derived.Lib.ConvBytes
import Derived.Lib.AtoiErrMem
import Derived.Laws.Cover3
import Derived.Scope
import Derived.Lib.AppendStr
import Derived.Lib.Builder
import Derived.Lib.UnsafeStr
import Derived.MapKept
set_option linter.all false
namespace Go.PL
open Go Go.RowKit
def kr (st:St) (e:Ak):St:={st with so:=Kx e (st.so.filter (fun x=>x.id != e.id&& !(BX e.id&&Db x.id)))}
theorem KU {id:Ae} {v:V} (h:v.men id=false):CN id v=v:=by simp_all [CN]
theorem RV {id:Ae}: ∀ {l:List V},(∀ v∈l,v.men id=false)→l.map (CN id)=l
 | [],_=>rfl
 | v::l,h=>by rw [List.map_cons,KU (h v (by simp)),RV (fun x hx=>h x (by simp [hx]))]
theorem VD {id:Ae}: ∀ {l:List C},Bd id l=false→l.map (EL id)=l
 | [],_=>rfl
 | c::l,h=>by
   simp only [Bd,Bool.or_eq_false_iff]at h
   rw [List.map_cons,VD h.2,EL,if_neg (by simp [h.1])]
def Ak.fre (id:Ae) (e:Ak):Bool:=e.pu|| !Bd id e.cs
theorem Ak.kill_eq {id:Ae} {e:Ak} (h:e.fre id=true):e.kill id=e:=by
 obtain⟨i,r,cs,pu⟩:=e
 cases pu<;>simp_all [Ak.fre,Ak.kill,VD]
theorem ku {st:St} {e:Ak} (h1: ∀ v∈st.tm,v.men e.id=false) (h2: ∀ x∈st.so,x.id=e.id∨x.fre e.id=true) (h3: ∀ v∈st.gh,v.men e.id=false) (h4:e.fre e.id=true):st.new e=kr st e:=by
 have a:(st.so.filter (fun x=>x.id != e.id&& !(BX e.id&&Db x.id))).map (Ak.kill e.id)=st.so.filter (fun x=>x.id != e.id&& !(BX e.id&&Db x.id)):=by
  have: ∀ l:List Ak,(∀ x∈l,x.id=e.id∨x.fre e.id=true)→(l.filter (fun x=>x.id != e.id&& !(BX e.id&&Db x.id))).map (Ak.kill e.id)=l.filter (fun x=>x.id != e.id&& !(BX e.id&&Db x.id)):=by
   intro l
   induction l with
   | nil=>intro _;rfl
   | cons x l ih=>
     intro hl
     simp only [List.filter_cons]
     grind [Ak.kill_eq]
  grind
 simp_all [St.new,kr,St.kill,RV,Ak.kill_eq]
def jm (P:Program) (st:St) (s:Stp) (o:Oper):Option (List Prop×Ak×V):=
 match o.guard,o.dst,s with
 | none,some d, .a =>match o.op with
   | .alloc T=>match MI P T with
     | some cs=>some ([],⟨d::st.pre,none,cs,false⟩, .c (.ptr (d::st.pre) 0))
     | none=>none
   | .box _ x=>match (AD st true x).2.cells with
     | some cs=>some ((AD st true x).1,⟨d::st.pre,none,cs,false⟩, .c (.ptr (d::st.pre) 0))
     | none=>none
   | .assign (.const (.slice none 0 0))=>match BZ P o.type with
     | some (E,n)=>some ([],⟨d::st.pre,some (E,n,0),[],true⟩, .c (.osl (d::st.pre)))
     | none=>none
   | .buildSlice t len ps=>match BN P t with
     | some (E,n,_)=>match HU P E with
       | some z=>match Ff (fun i=>some (i*n,n)) (Bj z len) ((FT st true ps.toList).2.map Ky)with
         | some cs=>match z.length==n&&Nat.blt 0 n&&Nat.ble (len*n) (2 ^ 24)&&Aj cs with
           | true=>some ((FT st true ps.toList).1++[],⟨d::st.pre,some (E,n,len),cs,true⟩, .c (.osl (d::st.pre)))
           | false=>none
         | none=>none
       | none=>none
     | none=>none
   | _=>none
 | none,some d, .e len cs=>match o.op with
   | .makeSlice t l c=>match (AD st true l).2,(AD st true c).2,BN P t with
     | .c (.int _ l'), .c (.int _ c'),some (E,n,by')=>match HU P E with
       | some z=>match z.length==n&&Nat.blt 0 n with
         | true=>some (((AD st true l).1++(AD st true c).1)++([l'.toNat=len∧Bj z l'.toNat=cs]++[0≤l'∧l'≤c'∧c'*by'≤140737488355328∧c'≤maxLen]),⟨d::st.pre,some (E,n,len),cs,true⟩, .c (.osl (d::st.pre)))
         | false=>none
       | none=>none
     | _,_,_=>none
   | _=>none
 | _,_,_=>none
theorem VE {P:Program} {I:World→Prop} {st:St} {s:Stp} {ops:Array Oper} {o:Oper} {l:List Prop} {e:Ak} {v:V} (h:jm P st s o=some (l,e,v)):
 Fg P I false ops o s st=some (l,(st.new e).put o.dst v):=by
 obtain⟨dst,op,ty,pos,aft,gd⟩:=o
 unfold jm at h
 split at h
 ·rename_i d h1 h2
  simp only at h1 h2
  subst h1 h2
  split at h
  ·rename_i T hT
   simp only at hT;subst hT
   split at h
   ·rename_i cs hz
    simp only [Option.some.injEq,Prod.mk.injEq]at h
    obtain⟨rfl,rfl,rfl⟩:=h
    grind [Fg,Ep,A2,cB]
   ·cases h
  ·rename_i T x hT
   simp only at hT;subst hT
   split at h
   ·rename_i cs hz
    simp only [Option.some.injEq,Prod.mk.injEq]at h
    obtain⟨rfl,rfl,rfl⟩:=h
    grind [Fg,Ep,A2,cB]
   ·cases h
  ·rename_i hT
   simp only at hT;subst hT
   split at h
   ·rename_i E n hz
    simp only [Option.some.injEq,Prod.mk.injEq]at h
    obtain⟨rfl,rfl,rfl⟩:=h
    grind [Fg,Ep,A2,cB]
   ·cases h
  ·rename_i t len ps hT
   simp only at hT;subst hT
   split at h
   ·rename_i E n b h1
    split at h
    ·rename_i z h2
     split at h
     ·rename_i cs h3
      split at h
      ·rename_i hb
       simp only [Option.some.injEq,Prod.mk.injEq]at h
       obtain⟨rfl,rfl,rfl⟩:=h
       simp only [Fg,Ep,A2,cB,gw,h1,h2,h3,hb,Xt]
      ·cases h
     ·cases h
    ·cases h
   ·cases h
  ·cases h
 ·rename_i d len cs h1 h2
  simp only at h1 h2
  subst h1 h2
  split at h
  ·rename_i t l c hT
   simp only at hT;subst hT
   split at h
   ·rename_i E n b h1 h2 h3
    split at h
    ·rename_i z h4
     split at h
     ·rename_i hb
      simp only [Option.some.injEq,Prod.mk.injEq]at h
      obtain⟨rfl,rfl,rfl⟩:=h
      simp only [Fg,Ep,A2,cB,YS,h1,h2,h3,h4,hb,Xt]
     ·cases h
    ·cases h
   ·cases h
  ·cases h
 ·cases h
theorem cL {P:Program} {st:St} {s:Stp} {o:Oper} {r:List Prop×Ak×V} (h:jm P st s o=some r): ∀ x,s ≠ .D x:=by
 intro x hx
 simp_all [jm]
theorem YX {P:Program} {I:World→Prop} {dr:Bool} {ops:Array Oper} {o:Oper} {s:Stp} {st:St} (h: ∀ x,s ≠ .D x):Fg P I dr ops o s st=Ep P I dr ops o s st:=by
 cases s<;>first | rfl | grind
theorem kw {P:Program} {st:St} {s:Stp} {o:Oper} {l:List Prop} {e:Ak} {v:V} (h:jm P st s {o with guard:=none}=some (l,e,v)):
 A2 o.op= .ef ∧cB P st s o=some (l,(st.new e).put o.dst v):=by
 have hs:=VE (I:=fun _=>True) (ops:= #[]) h
 obtain⟨dst,op,ty,pos,aft,gd⟩:=o
 have hk:A2 op= .ef :=by
  unfold jm at h
  split at h
  ·split at h
   all_goals first
    | (rename_i hT;simp only at hT;subst hT;rfl)
    | grind
  ·split at h
   all_goals first
    | (rename_i hT;simp only at hT;subst hT;rfl)
    | grind
  ·cases h
 refine⟨hk,?_⟩
 rw [YX (cL h)]at hs
 unfold Ep at hs
 simp only [hk]at hs
 exact hs
def oV (P:Program) (st:St) (s:Stp) (ops:Array Oper) (o:Oper):Option (List Prop×Ak×V):=
 match o.guard with
 | none=>jm P st s o
 | some (j,want)=>match jm P st s {o with guard:=none}with
   | some (l,e,v)=>match EG st ops j want with
     | some g=>some (l++[g=true],e,v)
     | none=>none
   | none=>none
theorem cM {P:Program} {I:World→Prop} {st:St} {s:Stp} {ops:Array Oper} {o:Oper} {l:List Prop} {e:Ak} {v:V} (h:oV P st s ops o=some (l,e,v)):
 Fg P I false ops o s st=some (l,(st.new e).put o.dst v):=by
 unfold oV at h
 split at h
 ·exact VE h
 ·rename_i j want hg
  split at h
  ·rename_i l1 e1 v1 h1
   split at h
   ·rename_i g hq
    simp only [Option.some.injEq,Prod.mk.injEq]at h
    obtain⟨rfl,rfl,rfl⟩:=h
    obtain⟨hk,he⟩:=kw h1
    grind [YX,cL,Ep]
   ·cases h
  ·cases h
structure RD where
 tm:List (List (Nat×V)×V)
 so:List (List (Nat×Ak)×Option Ak)
 gh:List V
 pre:Ae
def gA (f:Nat→Bool):List (Nat×V)→V→V
 | [],u=>u
 | (i,v)::ws,u=>gA f ws (cond (f i) v u)
def gB (f:Nat→Bool):List (Nat×Ak)→Option Ak→Option Ak
 | [],u=>u
 | (i,v)::ws,u=>gB f ws (cond (f i) (some v) u)
def RD.st (d:RD) (f:Nat→Bool):St:=⟨d.tm.map (fun x=>gA f x.1 x.2),d.so.filterMap (fun x=>gB f x.1 x.2),d.gh,d.pre⟩
theorem VF {id:Ae} {f:Nat→Bool} {dead:Nat→Bool} (hd: ∀ j,dead j=true→f j=false): ∀ {ws:List (Nat×V)} {u:V},(ws.all fun y=>dead y.1|| !y.2.men id)=true→u.men id=false→(gA f ws u).men id=false
 | [],u,_,h=>h
 | (i,v)::ws,u,h,hu=>by
   simp only [List.all_cons,Bool.and_eq_true,Bool.or_eq_true,Bool.not_eq_true']at h
   show (gA f ws (cond (f i) v u)).men id=false
   refine VF (ws:=ws) hd h.2 ?_
   grind
theorem VG {id:Ae} {f:Nat→Bool} {dead:Nat→Bool} (hd: ∀ j,dead j=true→f j=false): ∀ {ws:List (Nat×Ak)} {u:Option Ak},(ws.all fun y=>dead y.1||(y.2.id==id||y.2.fre id))=true→(∀ e,u=some e→e.id=id∨e.fre id=true)→ ∀ e,gB f ws u=some e→e.id=id∨e.fre id=true
 | [],u,_,h=>h
 | (i,v)::ws,u,h,hu=>by
   simp only [List.all_cons,Bool.and_eq_true,Bool.or_eq_true,beq_iff_eq]at h
   show ∀ e,gB f ws (cond (f i) (some v) u)=some e→_
   refine VG (ws:=ws) hd h.2 ?_
   grind
def cN (id:Ae):Option Ak→Bool
 | some e=>e.id==id||e.fre id
 | none=>true
def RD.free (d:RD) (id:Ae) (dead:Nat→Bool):Bool:=
 d.tm.all (fun x=>x.1.all (fun y=>dead y.1|| !y.2.men id)&& !x.2.men id)&&
 (d.so.all (fun x=>x.1.all (fun y=>dead y.1||(y.2.id==id||y.2.fre id))&&cN id x.2)&&d.gh.all (fun v=> !v.men id))
theorem RD.free_spec {d:RD} {id:Ae} {dead f:Nat→Bool} (hd: ∀ j,dead j=true→f j=false) (h:d.free id dead=true):
 (∀ v∈(d.st f).tm,v.men id=false)∧(∀ x∈(d.st f).so,x.id=id∨x.fre id=true)∧(∀ v∈(d.st f).gh,v.men id=false):=by
 simp only [RD.free,Bool.and_eq_true,List.all_eq_true]at h
 refine⟨fun v hv=>?_,fun x hx=>?_,fun v hv=>?_⟩
 ·simp only [RD.st,List.mem_map]at hv
  obtain⟨y,h1,rfl⟩:=hv
  have:=h.1 y h1
  simp only [Bool.and_eq_true,Bool.not_eq_true']at this
  exact VF hd (by grind) this.2
 ·simp only [RD.st,List.mem_filterMap]at hx
  obtain⟨y,h1,h2⟩:=hx
  have:=h.2.1 y h1
  refine VG hd (by grind) (fun e he=>?_) x h2
  grind [cN]
 ·have:=h.2.2 v hv
  grind
def cO (P:Program) (I:World→Prop) (ops:Array Oper) (ss:List Stp) (ids:List Ae) (d:RD) (dead f:Nat→Bool) (i:Nat):Option (List Prop×St):=
 match ops[i]?,ss[i]? with
 | some o,some s=>match oV P (d.st f) s ops o with
   | some (l,e,v)=>match d.free e.id dead&&e.fre e.id with
     | true=>some (l,cI ids ((kr (d.st f) e).put o.dst v))
     | false=>none
   | none=>match Fg P I false ops o s (d.st f)with
     | some (c,st')=>some (c,cI ids st')
     | none=>none
 | _,_=>none
theorem XB {P:Program} {I:World→Prop} {ops:Array Oper} {ss:List Stp} {ids:List Ae} {d:RD} {dead f:Nat→Bool} {i:Nat} {r:List Prop×St} (hd: ∀ j,dead j=true→f j=false) (h:cO P I ops ss ids d dead f i=some r):
 VB P I ops ss ids (d.st f) i=some r:=by
 unfold cO at h
 unfold VB
 split at h
 ·rename_i o s h1 h2
  try simp only [h1,h2]
  split at h
  ·rename_i l e v h3
   split at h
   ·rename_i hb
    simp only [Bool.and_eq_true]at hb
    obtain⟨a,b,c⟩:=RD.free_spec (f:=f) hd hb.1
    rw [cM h3,ku a b c hb.2]
    exact h
   ·cases h
  ·exact h
 ·cases h
def Ec:List Nat→Nat→Bool
 | [],_=>false
 | x::l,j=>cond (Nat.beq x j) true (Ec l j)
theorem BQ: ∀ {l:List Nat} {j:Nat},Ec l j=true↔j∈l
 | [],j=>by simp [Ec]
 | x::l,j=>by
   simp only [Ec,List.mem_cons]
   cases h:Nat.beq x j
   ·simp only [cond_false,BQ (l:=l)]
    have:x ≠ j:=fun e=>by simp_all
    grind
   simp_all
def jp:List Nat→List Bool→Nat→Option Bool
 | e::es,b::bs,j=>cond (Nat.beq e j) (some b) (jp es bs j)
 | _,_,_=>none
theorem NV (f:Nat→Bool): ∀ (E:List Nat) (j:Nat),jp E (E.map f) j=if j∈E then some (f j)else none
 | [],j=>rfl
 | e::E,j=>by
   simp only [List.map_cons,jp,NV f E j,List.mem_cons]
   cases h:Nat.beq e j
   ·have:j ≠ e:=fun q=>by subst q;simp at h
    simp [this]
   ·have:=Nat.eq_of_beq_eq_true h
    subst this
    simp
def oc (pr:List (List Nat)) (E:List Nat) (mb:List Bool) (i:Nat) (b:Nat→Bool):Nat→Bool:=fun j=>
 cond (Nat.beq j i) false (cond (Ec (pr.getD j []) i) false (match jp E mb j with
  | some x=>x
  | none=>cond (Ec (pr.getD i []) j) true (b j)))
def gC (f:Nat→Bool) (i:Nat):Nat→Bool:=fun j=>cond (Nat.beq j i) true (f j)
def cP (pr:List (List Nat)) (i:Nat):Nat→Bool:=fun j=>cond (Nat.beq j i) true (Ec (pr.getD j []) i)
def aw (pr:List (List Nat)) (E:List Nat) (mb:List Bool) (N:Nat):List Nat:=
 (List.range N).filter fun i=>(match jp E mb i with
  | some true=>false
  | _=>true)&&(pr.getD i []).all fun j=>match jp E mb j with
    | some false=>false
    | _=>true
def NI (ops:Array Oper) (i:Nat):List Nat:=match ops[i]? with
 | some o=>(o.after.toList.filter (Region.binds .any)).map (·.on)
 | none=>[]
def KW (ops:Array Oper) (pr:List (List Nat)):Bool:=
 (List.range ops.size).all fun i=>(NI ops i).all (fun j=>Nat.blt j i&&Ec (pr.getD i []) j)&&(pr.getD i []).all fun j=>Ec (NI ops i) j||(NI ops i).any fun k=>Ec (pr.getD k []) j
def gD (pr:List (List Nat)) (E:List Nat) (ms:List (List Bool)) (N:Nat):Bool:=
 ms.contains (E.map fun _=>false)&&ms.all fun mb=>(aw pr E mb N).all fun i=>ms.contains (E.map fun j=>cond (Nat.beq j i) true ((jp E mb j).getD false))
def m6 (P:Program) (I:World→Prop) (ops:Array Oper) (ss:List Stp) (ids:List Ae) (d:RD) (pr:List (List Nat)) (E:List Nat) (ms:List (List Bool)) (b:Nat→Bool):List (Option (List Prop×St)):=
 ms.flatMap fun mb=>(aw pr E mb ops.size).map fun i=>cO P I ops ss ids d (cP pr i) (oc pr E mb i b) i
def jq (ops:Array Oper) (cs:List (List Prop)) (d:RD) (pr:List (List Nat)) (E:List Nat) (ms:List (List Bool)) (b:Nat→Bool):List (Option (List Prop×St)):=
 ms.flatMap fun mb=>(aw pr E mb ops.size).map fun i=>some (cs.getD i [],d.st (gC (oc pr E mb i b) i))
def bv (v:List Bool):Nat→Bool:=fun j=>v.getD j false
theorem VH {α β:Type} {f g:α→Nat→β} {r:α→List Nat}: ∀ {l:List α},(l.flatMap fun n=>(r n).map (f n))=(l.flatMap fun n=>(r n).map (g n))→ ∀ n∈l, ∀ i∈r n,f n i=g n i
 | [],_,n,hn,_,_=>by simp at hn
 | a::l,h,n,hn,i,hi=>by
   simp only [List.flatMap_cons]at h
   have hh:=List.append_inj h (by simp)
   rcases List.mem_cons.1 hn with rfl | hn
   ·simp_all
   ·exact VH hh.2 n hn i hi
section
variable {P:Program} {F:Fr} {ops:Array Oper}
theorem RW {v:List Bool} {i:Nat} (hv:v.length=ops.size) (h:i∈Region.ready .any ops v.toArray):i<ops.size∧bv v i=false∧ ∀ j∈NI ops i,bv v j=true:=by
 unfold Region.ready at h
 simp only [List.mem_filter,List.mem_range,Bool.and_eq_true,Bool.not_eq_true']at h
 obtain⟨h1,h2,h3⟩:=h
 refine⟨h1,?_,fun j hj=>?_⟩
 ·simp_all [bv]
 ·unfold NI at hj
  have ho:ops[i]? =some ops[i]:=(by grind)
  rw [ho]at hj h3
  simp only [List.mem_map,List.mem_filter]at hj
  obtain⟨e,⟨he,hb⟩,rfl⟩:=hj
  simp only [Option.map_some,Option.getD_some,Array.all_eq_true_iff_forall_mem]at h3
  have:=h3 e (by simpa using he)
  simp_all [bv]
theorem cQ {v:List Bool} {pr:List (List Nat)} (hv:v.length=ops.size) (hp:KW ops pr=true) (h:Region.ready .any ops v.toArray=[]): ∀ i,i<ops.size→bv v i=true:=by
 intro i
 induction i using Nat.strongRecOn with
 | ind i ih=>
   intro hi
   cases hb:bv v i
   ·exfalso
    have:i∈Region.ready .any ops v.toArray:=by
     unfold Region.ready
     simp only [List.mem_filter,List.mem_range,Bool.and_eq_true,Bool.not_eq_true']
     refine⟨hi,?_,?_⟩
     ·simp_all [bv]
     ·have ho:ops[i]? =some ops[i]:=(by grind)
      rw [ho]
      simp only [Option.map_some,Option.getD_some,Array.all_eq_true_iff_forall_mem]
      intro e he
      cases hbd:Region.binds .any e
      ·rfl
      ·have hd:e.on∈NI ops i:=by
        unfold NI;grind
       simp only [KW,List.all_eq_true,List.mem_range,Bool.and_eq_true]at hp
       have hlt:=((hp i hi).1 _ hd).1
       simp only [Nat.blt_eq]at hlt
       have:=ih _ hlt (by omega)
       simp_all [bv]
    grind
   ·rfl
theorem oW {pr:List (List Nat)} {E:List Nat} {ms:List (List Bool)} {ss:List Stp} {ids:List Ae} {cs:List (List Prop)} {d:RD} {Q:Exit→St→Prop} (hids:ids.Nodup) (hp:KW ops pr=true) (hm:gD pr E ms ops.size=true)
 (hst: ∀ b,m6 P F.I ops ss ids d pr E ms b=jq ops cs d pr E ms b) (hc:KT cs) (hQ:Q .normal (d.st fun j=>Nat.blt j ops.size)):
 ∀ (fuel:Nat) (v:List Bool) (a:Act) (w:World) (G:Au),v.length=ops.size→E.map (bv v)∈ms→(∀ i,bv v i=true→ ∀ j∈pr.getD i [],bv v j=true)→cJ v≤fuel→R F (d.st (bv v)) a w G→
   wpAny P .any ops (fun e a' w'=> ∃ st' G',Q e st'∧R F st' a' w' G') fuel v.toArray a w:=by
 have fin: ∀ (v:List Bool) a w G,v.length=ops.size→Region.ready .any ops v.toArray=[]→R F (d.st (bv v)) a w G→ ∃ st' G',Q .normal st'∧R F st' a w G':=by
  intro v a w G hv hr hR
  have e:bv v=fun j=>Nat.blt j ops.size:=by
   funext j
   by_cases hj:j<ops.size
   ·rw [cQ hv hp hr j hj];simp_all
   ·have h1:bv v j=false:=by grind [bv]
    rw [h1]
    cases hb:Nat.blt j ops.size
    ·rfl
    ·simp at hb;omega
  grind
 intro fuel
 induction fuel with
 | zero=>
   intro v a w G hv hE hcl hu hR
   have hz:=VC _ (Nat.le_zero.1 hu)
   have hr:Region.ready .any ops v.toArray=[]:=by
    rcases hrr:Region.ready .any ops v.toArray with _ | ⟨i,r⟩
    ·rfl
    ·have:=RW hv (i:=i) (by grind)
     rw [List.all_eq_true]at hz
     have hlt:i<v.length:=by omega
     have h2:=hz v[i] (List.getElem_mem hlt)
     grind [bv]
   exact⟨hr,fin v a w G hv hr hR⟩
 | succ fuel ih=>
   intro v a w G hv hE hcl hu hR
   refine⟨(by grind),fun i hi=>?_⟩
   obtain⟨hlt,hf,hdir⟩:=RW hv hi
   have hp':=hp
   simp only [KW,List.all_eq_true,List.mem_range,Bool.and_eq_true,Bool.or_eq_true,List.any_eq_true,BQ]at hp'
   have hpre: ∀ j∈pr.getD i [],bv v j=true:=by
    grind
   have hsuc: ∀ j,i∈pr.getD j []→bv v j=false:=by
    grind
   have hg:oc pr E (E.map (bv v)) i (bv v)=bv v:=by
    funext j
    unfold oc
    cases h1:Nat.beq j i
    ·simp only [cond_false]
     cases h2:Ec (pr.getD j []) i
     ·simp only [cond_false,NV]
      grind [BQ]
     grind [BQ]
    simp_all
   have hri:i∈aw pr E (E.map (bv v)) ops.size:=by
    simp_all [aw,NV]
   have hstep:=VH (r:=fun mb=>aw pr E mb ops.size) (hst (bv v)) _ hE i hri
   rw [hg]at hstep
   have hdead: ∀ j,cP pr i j=true→bv v j=false:=by
    grind [cP,BQ,Nat.eq_of_beq_eq_true]
   have hstep:=XB hdead hstep
   have hset:gC (bv v) i=bv (v.set i true):=by
    funext j
    unfold gC
    cases h1:Nat.beq j i
    ·have:i ≠ j:=fun e=>by simp_all
     grind [bv]
    grind [Nat.eq_of_beq_eq_true,bv]
   unfold VB at hstep
   split at hstep
   ·rename_i o s ho hs
    split at hstep
    ·rename_i c st' hss
     simp only [Option.some.injEq,Prod.mk.injEq]at hstep
     obtain⟨hcc,hst'⟩:=hstep
     rw [hset]at hst'
     have hwp:=KQ (K:=fun s'=>Bk s' (d.st (bv (v.set i true)))) hss (hcc▸LW hc i) (hst'▸RQ ids hids st')
     have hw:=IT (Q:=fun e a' w'=> ∃ st' G',Q e st'∧R F st' a' w' G') hR hwp
     have hnext: ∀ a' w',U2 F (fun s'=>Bk s' (d.st (bv (v.set i true)))) a' w'→wpAny P .any ops (fun e a' w'=> ∃ st' G',Q e st'∧R F st' a' w' G') fuel (v.toArray.setIfInBounds i true) a' w':=by
      intro a' w' ⟨s',G',hl,hR'⟩
      have hsa:v.toArray.setIfInBounds i true=(v.set i true).toArray :=by simp
      rw [hsa]
      refine ih (v.set i true) a' w' G' (by grind) ?_ ?_ ?_ (hR'.less hl)
      ·simp only [gD,Bool.and_eq_true,List.all_eq_true,List.contains_iff_mem]at hm
       have:=hm.2 _ hE i hri
       have e:(E.map fun j=>cond (Nat.beq j i) true ((jp E (E.map (bv v)) j).getD false))=E.map (bv (v.set i true)):=by
        refine List.map_congr_left (fun j hj=>?_)
        rw [←hset,NV,if_pos hj]
        rfl
       grind
      ·intro k hk j hj
       rw [←hset]at hk ⊢
       unfold gC at hk ⊢
       cases h1:Nat.beq j i
       ·simp only [cond_false]
        grind [Nat.eq_of_beq_eq_true]
       ·rfl
      grind [bv,TI]
     unfold wpOp
     rw [ho]
     simp only
     by_cases hwt:Region.wanted o (yielded ops a.tmps)=true
     ·rw [if_pos hwt]at hw ⊢
      grind [Oper.wp_mono]
     grind
    grind
   grind
theorem Ah.regS {st:St} {rid:Nat} {l:List Oper} {Q:Exit→St→Prop} (h1:P.follows .mixedOrders =true) (pr:List (List Nat)) (E:List Nat) (ms:List (List Bool)) (ss:List Stp) (ids:List Ae) (d:RD) (cs:List (List Prop)) (hc:KT cs) (hQ:Q .normal (d.st fun j=>Nat.blt j l.toArray.size))
 (hids:JB ids=true:=by kernel_rfl) (hp:KW l.toArray pr=true:=by kernel_rfl) (hm:gD pr E ms l.toArray.size=true:=by kernel_rfl) (h0:RU st (d.st fun _=>false)=some (d.st fun _=>false):=by kernel_rfl)
 (hst: ∀ b,m6 P F.I l.toArray ss ids d pr E ms b=jq l.toArray cs d pr E ms b:=by intro b;kernel_rfl):Ah P F (.region rid l.toArray true) st Q:=by
 intro a w G hR
 refine wp_region_any h1 ?_
 have hR':=(hR.less (Bk.t h0)).same (w':={w with drawn:=w.drawn+1}) ⟨rfl,rfl,rfl⟩ ⟨Nat.le_refl _,fun _ _=>rfl⟩
 have e0:bv (List.replicate l.toArray.size false)=fun _=>false:=by
  grind [bv]
 have key:=oW (P:=P) (ops:=l.toArray) (Q:=Q) (EP hids) hp hm hst hc hQ l.toArray.size (List.replicate l.toArray.size false) a _ G (by simp) (by
  simp_all [gD]) (by grind) (by simp [cJ]) (by rw [e0];exact hR')
 grind
end
def od:Nat→Nat→List (Nat×List (Nat×V)×V)→List (List (Nat×V)×V)
 | 0,_,_=>[]
 | n+1,i,[]=>([], .undef)::od n (i+1) []
 | n+1,i,(j,ws,v)::l=>match Nat.beq i j with
   | true=>(ws,v)::od n (i+1) l
   | false=>([], .undef)::od n (i+1) ((j,ws,v)::l)
theorem bC {l:List Prop} {ls:List (List Prop)} (h:AC l) (k:KT ls):KT (l::ls):=⟨h,k⟩
theorem bN:KT []:=trivial
end Go.PL
namespace Go.PL
open Go Go.RowKit
def Wk (st st':St):Prop:= ∀ (F:Fr) (a:Act) (w:World) (G:Au),R F st a w G→ ∃ G',R F st' a w G'
theorem Wk.less {st st':St} (h:Bk st st'):Wk st st':=fun _ _ _ G hR=>⟨G,hR.less h⟩
theorem Wk.trans {a b c:St} (h:Wk a b) (k:Wk b c):Wk a c:=fun F x w G hR=>by
 obtain⟨G',q⟩:=h F x w G hR
 exact k F x w G' q
theorem Wk.frz (st:St) (id:Ae):Wk st (st.freeze id):=fun _ _ _ _ hR=>by
 obtain⟨G',q,_⟩:=hR.freeze id
 grind
theorem Wk.frzs: ∀ (ids:List Ae) (st:St),Wk st (ids.foldl St.freeze st)
 | [],st=>Wk.less (Bk.refl st)
 | i::l,st=>(Wk.frz st i).trans (Wk.frzs l _)
theorem wT {st st':St} (h:RU st st'=some st':=by kernel_rfl):Wk st st':=Wk.less (Bk.t h)
section
variable {P:Program} {F:Fr} {st:St}
theorem Ah.wk {c:Code} {st':St} {Q:Exit→St→Prop} (h:Wk st st') (hh:Ah P F c st' Q):Ah P F c st Q:=fun a w G hR=>by
 obtain⟨G',q⟩:=h F a w G hR
 exact hh a w G' q
theorem Fz (ids:List Ae) (st':St) {c:Code} {Q:Exit→St→Prop} (hh:Ah P F c st' Q) (h:ids.foldl St.freeze st=st':=by kernel_rfl):Ah P F c st Q:=Ah.wk (h▸Wk.frzs ids st) hh
theorem Ah.loopW {X:Type} (S:X→St) (inv:X→Prop) (μ:X→Nat) {c:Code} {Q:Exit→St→Prop} (x0:X) (h0:inv x0) (hl:Wk st (S x0))
 (hb: ∀ x,inv x→Ah P F c (S x) (CP (fun st'=> ∃ y,inv y∧μ y<μ x∧Wk st' (S y)) Q)):Ah P F (.loop c) st Q:=by
 refine Ah.loop (X:=X×St) (fun p=>p.2) (fun p=>inv p.1∧Wk p.2 (S p.1)) (fun p=>μ p.1) (x0,st) ⟨h0,hl⟩ (Bk.refl _) (fun p hp=>?_)
 refine(Ah.wk hp.2 (hb p.1 hp.1)).mono fun e st' q=>?_
 cases e<;>simp only [CP]at q ⊢ <;>try exact q
 obtain⟨y,h1,h2,h3⟩:=q
 exact⟨(y,st'),⟨h1,h3⟩,h2,Bk.refl _⟩
theorem It {σ ρ:Type} {B:σ→Option (σ⊕ρ)} (S:σ→St) {N:Nat} {s0:σ} {o:ρ} {c:Code} {Q:Exit→St→Prop} (hi:PL.iter B N s0=some o) (hl:Wk st (S s0))
 (hb: ∀ s z,B s=some z→(∀ o',z= .inr o'→o'=o)→Ah P F c (S s) (CP (fun st'=> ∃ s',z= .inl s'∧Wk st' (S s')) Q)):Ah P F (.loop c) st Q:=by
 refine Ah.loopW (X:=Nat×σ) (fun x=>S x.2) (fun x=>PL.iter B x.1 x.2=some o) (fun x=>x.1) (N,s0) hi hl ?_
 intro ⟨n,s⟩ hx
 cases n with
 | zero=>simp [PL.iter]at hx
 | succ n=>
   simp only [PL.iter]at hx
   cases hB:B s with
   | none=>grind
   | some z=>
     rw [hB]at hx
     cases z with
     | inl s'=>
       refine(hb s _ hB (fun o' e=>by cases e)).mono fun e st' q=>?_
       cases e<;>simp only [CP]at q ⊢ <;>try exact q
       obtain⟨s'',e,hl'⟩:=q
       injection e with e;subst e
       exact⟨(n,s'),hx,Nat.lt_succ_self _,hl'⟩
     | inr r=>
       simp only [Option.some.injEq]at hx
       refine(hb s _ hB (fun o' e=>by injection e with e;rw [←e];exact hx)).mono fun e st' q=>?_
       cases e<;>simp only [CP]at q ⊢ <;>try exact q
       grind
theorem Sj {X:Type} (S:X→St) (Φ:X→Prop) {x y:Code} {Q:Exit→St→Prop} (hx:Ah P F x st (CP (fun st'=> ∃ v,Φ v∧Wk st' (S v)) Q)) (hy: ∀ v,Φ v→Ah P F y (S v) Q):Ah P F (.seq x y) st Q:=
 Ah.seq (hx.mono fun e st' q=>by
  cases e<;>simp only [CP]at q ⊢ <;>try exact q
  grind [Ah.wk])
end
theorem RX {α:Type} (e:α→List C) (x:α) {z:List C} (hz:z=e x) (hp:0<z.length): ∀ k,Bj z k=(List.replicate k x).flatMap e:=by
 intro k
 subst hz
 apply List.ext_getElem?
 intro i
 have hlen:((List.replicate k x).flatMap e).length =k*(e x).length :=by
  simp_all
 by_cases hi:i<k*(e x).length
 ·have hm:i % (e x).length <(e x).length :=Nat.mod_lt _ hp
  have key: ∀ k i,i<k*(e x).length →((List.replicate k x).flatMap e)[i]? =(e x)[i % (e x).length]? :=by
   intro k
   induction k<;>grind [Nat.mod_eq_of_lt,List.getElem?_append_right,Nat.mod_eq_sub_mod]
  grind [Bj]
 grind [Bj]
theorem cR {α:Type} {s c:List α} {a b:Int} (h:Xx s a b=some c):0≤a∧a≤b∧b≤s.length:=by
 grind [Xx]
theorem cS {α:Type} {s c:List α} {a b:Int} (h:Xx s a b=some c):c=(s.drop a.toNat).take (b.toNat - a.toNat):=by
 grind [Xx]
theorem Ft {α:Type} {e:α→List C} {N:Nat} (hN: ∀ x,(e x).length =N): ∀ (l:List α) (k:Nat),(l.flatMap e).drop (k*N)=(l.drop k).flatMap e
 | l,0=>by simp
 | [],k+1=>by simp
 | x::l,k+1=>by
   rw [List.flatMap_cons,List.drop_succ_cons, ←Ft hN l k,Nat.succ_mul,Nat.add_comm, ←List.drop_drop]
   congr 1
   rw [←hN x,List.drop_left]
theorem Er {α:Type} {e:α→List C} {N:Nat} (hN: ∀ x,(e x).length =N): ∀ (l:List α) (k:Nat),(l.flatMap e).take (k*N)=(l.take k).flatMap e
 | l,0=>by simp
 | [],k+1=>by simp
 | x::l,k+1=>by
   rw [List.flatMap_cons,List.take_succ_cons,List.flatMap_cons, ←Er hN l k,Nat.succ_mul,Nat.add_comm, ←hN x,List.take_length_add_append]
theorem oX {α:Type} {l r:List α} {a b:Int} {e:α→List C} {N:Nat} (h:Xx l a b=some r) (hN: ∀ x,(e x).length =N):V.c (.sl (b.toNat - a.toNat) (((l.flatMap e).drop (a.toNat*N)).take ((b.toNat - a.toNat)*N)))=vL e r:=by
 have hb:=cR h
 rw [Ft hN,Er hN, ←cS h]
 have:r.length=b.toNat - a.toNat:=by
  rw [cS h,List.length_take,List.length_drop]
  omega
 grind
theorem flat_len' {α:Type} {enc:α→List C} {n:Nat} (hn: ∀ x,(enc x).length =n) (l:List α):(l.flatMap enc).length =l.length*n:=BO hn l
end Go.PL
namespace Go.PL
open Go Go.RowKit
def FV (s:List UInt8):List Int:=s.map fun b=>(b.toNat:Int)
def VI (P:Program) (dst:TypeId):Option TypeId:=match P.underlying dst with
 | some (.slice e)=>match P.underlying e with
   | some (.int .u8)=>some e
   | _=>none
 | _=>none
theorem OT {P:Program} {dst e:TypeId} (h:VI P dst=some e):P.underlying dst=some (.slice e)∧P.underlying e=some (.int .u8):=by
 grind [VI]
theorem KY {w:World} {G:Au} {e:TypeId} (s:List UInt8): ∀ (l:List UInt8) (k:Nat),s.drop k=l→Ai (Lib.bytesWorld w e ⟨s.toArray⟩) G ((FV l).flatMap (eI .u8)) w.heap.size k
 | [],_,_=>by simp [FV,Ai]
 | b::l,k,h=>by
   have hk:k<s.length:=by
    grind [List.drop_eq_nil_of_le]
   have hb:s.getD k 0=b:=by
    have:=congrArg (fun l=>l.head?) h
    grind [List.head?_drop]
   have hd:s.drop (k+1)=l:=by
    have:=congrArg List.tail h
    simpa using this
   simp only [FV,List.map_cons,List.flatMap_cons,eI,List.cons_append,List.nil_append,Ai,Ac]
   refine⟨⟨_,Lib.bytesWorld_cell w e ⟨s.toArray⟩ k (by simpa [ByteArray.size] using hk),?_⟩,KY s l (k+1) hd⟩
   simp only [List.getD_eq_getElem?_getD]at hb
   simp [List.getD_eq_getElem?_getD,hb]
theorem Dk.bytes {P:Program} {I:World→Prop} {o:Oper} {st:St} {K:St→Prop} {x:Operand} {src dst:TypeId} (e:TypeId) (s:List UInt8)
 (ho:o.op= .convert src dst x) (hlen:s.length≤140737488355328) (hK:K (st.put o.dst (vL (eI .u8) (FV s)))) (ha:st.ev x= .c (.str s):=by kernel_rfl)
 (hs:Cj P src=true:=by kernel_rfl) (hd:VI P dst=some e:=by kernel_rfl):Dk P I o st K:=by
 intro F a w G Q hI hR
 obtain⟨h1,h2⟩:=OT hd
 have hx:=hR.ev x
 rw [ha]at hx
 simp only [Ab,Ac]at hx
 obtain⟨u,hu⟩: ∃ u,P.underlying src=some u:=by
  unfold Cj at hs
  grind
 have hrun:(execOp a.eval o).run P w= .ok (.value (.slice (some ⟨w.heap.size,0,none⟩) s.length (grownCap w s.length 0 e))) (Lib.bytesWorld w e ⟨s.toArray⟩):=by
  simp_all [Lib.run_convert_string_bytes,execOp,ByteArray.size]
 refine Ap hrun ⟨_,G,hK,?_⟩
 have hb:=Lib.bytesWorld_below w e ⟨s.toArray⟩
 refine(hR.same (B7 hb) (Ce hb)).put ?_
 have hl:(FV s).length =s.length:=by simp [FV]
 simp only [Ab,Ac,hl]
 refine⟨(by grind [Cc,eI,Aj,C.pure]),_,_,rfl,grownCap_ge _ _ _ _,(by grind [grownCap_le_maxLen,maxLen]),fun h0=>?_, .inr ⟨w.heap.size,0,rfl,fun hw=>absurd (hR.avlt' hw) (by omega),?_,KY s s 0 rfl⟩⟩
 all_goals grind [Lib.bytesWorld_size]
end Go.PL
namespace Go.PL
open Go Go.RowKit
theorem Dk.nilq {P:Program} {I:World→Prop} {o:Oper} {st:St} {K:St→Prop} {t ty:TypeId} {x:Operand} {len:Nat} {cs:List C}
 (ho:o.op= .binOp .eql t x (.const (.slice none 0 0)) ty) (hK: ∀ b,(b=true→len=0)→K (st.put o.dst (vB b)))
 (hx:st.ev x= .c (.sl len cs):=by kernel_rfl) (ht:BV P t=true:=by kernel_rfl):Dk P I o st K:=by
 intro F a w G Q hI hR
 obtain⟨e,hu⟩:=Bi ht
 have hv:=hR.ev x
 rw [hx]at hv
 simp only [Ab,Ac]at hv
 obtain⟨_,p,cap,he,_,_,_,hz⟩:=hv
 have hrun:(execOp a.eval o).run P w= .ok (.value (.bool p.isNone)) w:=by
  have hq:=run_equal_slice_nil (P:=P) w t e p len cap hu
  have hc:a.eval (.const (.slice none 0 0))= .slice none 0 0:=rfl
  simp_all [execOp,eqGuard,binOp]
 refine Ap hrun ⟨_,G,hK p.isNone (fun hp=>?_),hR.put (by simp only [Ab,Ac])⟩
 grind
end Go.PL
namespace Go.PL
open Go Go.RowKit
structure GI (P:Program) (I:World→Prop) (f:FuncId) (args:List V) (E n:Nat) (Q:Nat→List C→Prop):Prop where
 ent:ent P f=true
 run: ∀ (w:World) (vs:Array Value) (av:Nat→Prop),I w→(∀ b,av b→b<w.heap.size)→An w (im av) args vs.toList→
  Calls P f vs w (fun e w'=> ∃ v len cs us,e= .returned v∧Q len cs∧Aj cs=true∧cs.length=len*n∧
   ((∃ p,v= .slice p 0 0∧len=0)∨Ag w' (im fun b=>av b∨v.ownBlock=some b) cs us∧w'.ownsRow w.heap.size E n v len us)∧Below w.heap.size w w')
def oY (st:St) (t:Nat) (E n:Nat) (Q:Nat→List C→Prop):Prop:=
 (∃ id e len,st.get t= .c (.osl id)∧st.look id=some e∧e.row=some (E,n,len)∧Aj e.cs=true∧Q len e.cs)∨(st.get t= .c .nils ∧Q 0 [])
theorem GI.of {P:Program} {I:World→Prop} (hst:Hz I) {f:FuncId} {fn:Func} {c:Code} {args:List V} {E n t m:Nat} {Q:Nat→List C→Prop} (hent:PL.ent P f=true) (hf:P.funcs[f]? =some fn) (hb:fn.body=some c)
 (hr:fn.results= #[.tmp t]) (hn:fn.ntmps=m)
 (h: ∀ w0 av old gv,Ah P ⟨w0,av,old,I,gv⟩ c (St.start args m) (fun e st'=>(e= .normal ∨e= .ret)∧oY st' t E n Q)):GI P I f args E n Q:=by
 refine⟨hent,fun w vs av hI hav hargs=>calls_of_wp hf hb ?_⟩
 subst hn
 have hR:=R.start hst hI hav hargs fn.ntmps
 refine Code.wp_mono (fun e a' w' ⟨st',G',⟨he,q⟩,hR'⟩=>?_) (h _ _ _ _ _ _ _ hR)
 have fin:a'.defers=[]∧ ∃ v,(results fn a'.tmps).run P w'= .ok v w'∧(fun(e:Ending) w''=> ∃ v len cs us,e= .returned v∧Q len cs∧Aj cs=true∧cs.length=len*n∧
  ((∃ p,v= .slice p 0 0∧len=0)∨Ag w'' (im fun b=>av b∨v.ownBlock=some b) cs us∧w''.ownsRow w.heap.size E n v len us)∧Below w.heap.size w w'') (.returned v) w':=by
  have hres:(results fn a'.tmps).run P w'= .ok (a'.tmps.getD t Go.undef) w':=by
   simp_all [Cr,DU]
  refine⟨hR'.dfr,_,hres,?_⟩
  have hbel:=hR'.below (fun _ hx=>hx)
  have hsl:=hR'.slots t
  rcases q with ⟨id,e,len,q1,q2,q3,q4,q5⟩ | ⟨q1,q2⟩
  ·have hsl':Ab w' G' (st'.get t) (a'.tmps.getD t Go.undef):=hsl
   rw [q1]at hsl'
   simp only [Ab,Ac]at hsl'
   obtain⟨hm,hid⟩:=AK q2
   obtain⟨v,us,k1,k2,k3,k4⟩:=Cq q3 (hR'.store e hm)
   have hE:=hR'.store e hm
   have hl:e.cs.length=len*n:=by grind [AJ]
   rw [hid]at k1
   rw [k1]at hsl'
   have hv:v=a'.tmps.getD t Go.undef:=by grind
   refine⟨_,len,e.cs,us,rfl,q5,q4,hl,?_,hbel⟩
   rw [←hv]
   rcases k4 with ⟨k4,k5⟩ | ⟨p,rfl,k5,_⟩
   ·refine .inr ⟨Ag.mono (G:=G') ⟨Nat.le_refl _,fun _ _ _=>rfl,fun b _ hw=>?_,fun _ _ _ _=>Bt.same rfl⟩ _ _ (fun i hi=>absurd (show Bd i e.cs=true from hi) (by rw [AE i e.cs q4];simp)) k3,?_⟩
    ·rw [hR'.wr]
     have hw':av b∨v.ownBlock=some b:=hw
     grind
    ·refine⟨k4.1,?_⟩
     rcases k4.2 with ⟨q,h0⟩ | ⟨g,cap,cur,q,z1,z2,z3,z4,z5,z6⟩
     ·grind
     ·refine .inr ⟨g,cap,cur,q,?_,z2,z3,z4,z5,z6⟩
      have hg:G'.blk e.id=some g:=by rw [←k5,q];rfl
      rcases hR'.new _ _ hg with q' | q'
      all_goals grind
   grind
  ·have hsl':Ab w' G' (st'.get t) (a'.tmps.getD t Go.undef):=hsl
   rw [q1]at hsl'
   simp only [Ab,Ac]at hsl'
   exact⟨_,0,[],[],rfl,q2,rfl,by simp,(by grind),hbel⟩
 rcases he with rfl | rfl<;>exact fin
end Go.PL
namespace Go.PL
open Go Go.RowKit
theorem GI.flat {P:Program} {I:World→Prop} {f:FuncId} {args:List V} {E n k:Nat} {ds:List C} (h:GI P I f args E n (fun len cs=>len=k∧cs=ds)):Bp P I f args (· = .c (.sl k ds)):=by
 refine⟨h.ent,fun w vs av hI hav hr=>(h.run w vs av hI hav hr).mono ?_⟩
 rintro e w' ⟨v,len,cs,us,he,⟨rfl,rfl⟩,hp,hl,hv,hb⟩
 refine⟨v,_,he,rfl,by simp only [V.pure,C.pure],?_,hb⟩
 simp only [Ab,Ac]
 refine⟨hp,?_⟩
 rcases hv with ⟨p,rfl,rfl⟩ | ⟨hr,hown⟩
 ·grind
 ·have h0:len=0→cs=[]:=fun h0=>(by simp_all)
  rcases hown.2 with ⟨q,q0⟩ | ⟨g,cap,cur,q,z1,z2,z3,z4,z5,z6⟩
  ·grind
  ·refine⟨_,cap,q,z3,z4,h0, .inr ⟨g,0,rfl,fun ha=>?_,(by grind),?_⟩⟩
   ·have:=hav g ha;omega
   ·refine Ai.of_list (vs:=us) ?_ (by grind [A0,List.take_append_drop])
    exact Ag.mono (G:=im fun b=>av b∨v.ownBlock=some b) ⟨Nat.le_refl _,fun _ _ _=>rfl,fun b _ hw=> .inl hw,fun _ _ _ _=>Bt.same rfl⟩ _ _ (fun i hi=>absurd (show Bd i cs=true from hi) (by rw [AE i cs hp];simp)) hr
end Go.PL
namespace Go.PL
open Go Go.RowKit
section
variable {P:Program} {F:Fr} {st:St}
def cT (Q:Exit→St→Prop):Exit→St→Prop
 | .goto _,_=>False
 | e,st=>Q e st
theorem Ah.label {l:Nat} {Q:Exit→St→Prop} (h:Q .normal st):Ah P F (.label l) st Q:=fun _ _ G hR=>wp_label ⟨st,G,h,hR⟩
theorem Ah.scope {c:Code} {Q:Exit→St→Prop} (h:Ah P F c st (cT Q)):Ah P F (.scope c) st Q:=
 fun a w G hR=>wp_scope_straight (Code.wp_mono (fun e a' w' ⟨st',G',q,hR'⟩=>by
  cases e<;>simp only [Exit.noGoto,cT]at q ⊢ <;>first
   | exact q.elim
   | grind) (h a w G hR))
end
end Go.PL
namespace Go.PL
open Go Go.RowKit
end Go.PL
namespace Go.PL
open Go Go.RowKit Go.Lib
theorem HW {P:Program} {w:World} (t u ty e:TypeId) (i:TypeInfo) (ht:P.underlying t=some (.slice e)) (hu:P.underlying u=some .string) (hi:P.info? e=some i) (hz:i.zero=some (.int .u8 0))
 (hsize:i.size=1) (hby:i.bytes=1) (v:Value) (n:Nat) (xs:List Value) (hown:w.ownsRow 0 e 1 v n xs) (s:ByteArray) (hbytes:n+s.size≤140737488355328):
 ∃ v' w',(Builtin.append_ #[t,u] ty #[v, .string s]).run P w= .ok v' w'∧
   w'.ownsRow 0 e 1 v' (n+s.size) (xs++strCells s)∧w.grownBy w' v.ownBlock∧(v'.ownBlock=v.ownBlock∨ ∀ b,v'.ownBlock=some b→w.heap.size≤b):=by
 have h63:n+s.size≤maxLen:=by unfold maxLen;omega
 have hxl:xs.length=n:=by simpa using hown.1
 have hlen:(xs++strCells s).length =(n+s.size)*1:=by simp_all [strCells_length]
 obtain⟨v',w',hr,h1,h2,_⟩:=run_append_own_string (P:=P) w 0 t u ty e i ht hu hi hz hsize hby v n xs hown s h63 hbytes (Nat.zero_le _)
 refine⟨v',w',hr,h1,h2,?_⟩
 rcases hown.2 with ⟨rfl,rfl⟩ | ⟨g,cap,cur,rfl,hbg,hg,hnc,hcm,hcs,htake⟩
 ·by_cases hm:s.size=0
  ·grind
  ·have hr2:=run_append_nil_string (P:=P) w t u ty e i (.int .u8 0) ht hu hi hz s (by omega) (by omega) (by rw [hby];omega)
   grind [Value.ownBlock]
 ·by_cases hroom:n+s.size≤cap
  ·have hr2:=run_append_room_string (P:=P) w t u ty e i ht hu hi hsize g n cap cur hg s hroom (by omega)
   rw [hr2]at hr
   injection hr with hr _
   subst hr
   exact .inl rfl
  ·have holds: ∀ j u,xs[j]? =some u→w.cell? ((⟨g,0,none⟩:Addr).add j)=some u:=hown.cells (g:=g) rfl
   have hr2:=run_append_grow_string (P:=P) w t u ty e i (.int .u8 0) ht hu hi hz ⟨g,0,none⟩ n cap xs (by rw [hsize];simpa using hxl) holds s (by omega) (by omega) (by rw [hby];exact growslice_fits (by omega) (by omega))
   grind [Value.ownBlock]
end Go.PL
namespace Go.PL
open Go Go.RowKit
section
variable {P:Program} {F:Fr} {st:St} {ops:Array Oper}
end
end Go.PL
namespace Go.PL
open Go Go.RowKit
end Go.PL
namespace Go.PL
open Go Go.RowKit Go.MapKept
section
variable {F:Fr} {st:St} {a:Act} {w:World} {G:Au}
end
section
variable {P:Program} {I:World→Prop} {o:Oper} {st:St} {K:St→Prop}
end
end Go.PL
namespace Go.PL
open Go Go.RowKit
theorem Dk.inlineB {P:Program} {I:World→Prop} {o:Oper} {st:St} {K:St→Prop} {x:Operand} {xs:List Operand} {c:Call} {s:Prop} {vs:List V} {f:FuncId} {cs:List C} {fn:Func} {body:Code} {n:Nat} {rs:List ResultVar} (k:Nat)
 (ho:o.op= .call c) (hcal:c.callee= .value x) (hxs:c.args.toList=xs) (ha:st.args true xs=(s,vs)) (hs:s) (hf:st.ev x= .c (.bmv f cs)) (hent:ent P f=true) (hfn:P.funcs[f]? =some fn) (hb:fn.body=some body) (hn:fn.ntmps=n) (hr:fn.results=rs.toArray)
 (h: ∀ w0 av old gv,Ah P ⟨w0,av,old,I,gv⟩ body (st.enter k (cs.map V.c++vs) n) (mA P rs st.tm.length st.pre o.dst K)):Dk P I o st K:=by
 intro F a w G Q hI hR
 have hargs:An w G vs (xs.map a.eval):=by
  have:=hR.args (g:=true) rfl (xs:=xs) (by grind)
  grind
 obtain⟨arr,hev,hcs⟩: ∃ arr:Array Value,a.eval x= .func (.func f) arr #[]∧Ag w G cs arr.toList:=by
  have hx:=hR.ev x
  grind [Ab,Ac]
 have hrun:(execOp a.eval o).run P w= .ok (.enter f (arr++(xs.map a.eval).toArray)) w:=by
  have e:c.args.map a.eval=(xs.map a.eval).toArray :=by grind
  grind [execOp,resolve,Deferred.ofValue,invoke,run_callFunc']
 unfold Oper.wp Oper.upon
 rw [hrun]
 simp only
 obtain⟨w0,av,old,I',gv⟩:=F
 simp only at hI;subst hI
 have hall:An w G (cs.map V.c++vs) (arr++(xs.map a.eval).toArray).toList :=by
  grind [Fn,LQ]
 refine calls_of_wp hfn hb ?_
 have hR0:=hR.enter k hall fn.ntmps
 rw [hn]at hR0
 rw [hn]
 refine Code.wp_mono (fun e a' w' ⟨st',G',q,hR'⟩=>?_) (h _ _ _ _ _ _ _ hR0)
 have hrs:fn.results.toList=rs:=by rw [hr]
 have fin:(Cu P st' rs).1∧K (st'.back st.tm.length st.pre o.dst (Cu P st' rs).2)→
  a'.defers=[]∧ ∃ v,(results fn a'.tmps).run P w'= .ok v w'∧U2 ⟨w0,av,old,I',gv⟩ K (a.put o.dst v) w':=by
  intro ⟨q1,q2⟩
  rw [←hrs]at q1 q2
  obtain⟨v,k1,k2⟩:=KJ hR' (fn:=fn) q1
  refine⟨hR'.dfr,v,k1,_,G',q2,?_⟩
  exact(R.back hR.dfr rfl hR' hR.size.symm st.pre).put k2
 cases e<;>simp only [mA]at q<;>first | exact fin q | exact q.elim
end Go.PL
namespace Go.PL
open Go Go.RowKit
def oe:List V→Nat→List Nat→List V
 | [],_,_=>[]
 | v::vs,_,[]=>v::vs
 | v::vs,i,j::l=>match Nat.beq i j with
   | true=> .undef ::oe vs (i+1) l
   | false=>v::oe vs (i+1) (j::l)
def og:List V→Nat→List (Nat×V)→List V
 | [],_,_=>[]
 | v::vs,_,[]=>v::vs
 | v::vs,i,(j,x)::l=>match Nat.beq i j with
   | true=>x::og vs (i+1) l
   | false=>v::og vs (i+1) ((j,x)::l)
inductive Dn where
 | k (n:Nat)
 | s (n:Nat) (l:List (Nat×C))
 | e (x:Ak)
def oZ:List C→Nat→List (Nat×C)→List C
 | [],_,_=>[]
 | v::vs,_,[]=>v::vs
 | v::vs,i,(j,x)::l=>match Nat.beq i j with
   | true=>x::oZ vs (i+1) l
   | false=>v::oZ vs (i+1) ((j,x)::l)
def ky:List Ak→Nat→Ak
 | [],_=>⟨[],none,[],false⟩
 | e::_,0=>e
 | _::l,n+1=>ky l n
def oh (old:List Ak):List Dn→List Ak
 | []=>[]
 | .k n::l=>ky old n::oh old l
 | .s n c::l=>(match ky old n with | ⟨i,r,cs,p⟩=>⟨i,r,oZ cs 0 c,p⟩)::oh old l
 | .e x::l=>x::oh old l
def u (d:List Nat) (l:List (Nat×V)) (st:St):St:=⟨og (oe st.tm 0 d) 0 l,st.so,st.gh,st.pre⟩
def uo (d:List Nat) (l:List (Nat×V)) (o:List Dn) (st:St):St:=⟨og (oe st.tm 0 d) 0 l,oh st.so o,st.gh,st.pre⟩
def nA:Nat→List Stp
 | 0=>[]
 | n+1=> .a ::nA n
section
variable {P:Program} {F:Fr} {st:St} {id:Nat} {l:List Oper} {c:Code} {Q:Exit→St→Prop} {cs:List Prop} {K:St→Prop}
theorem Gg (ss:List Stp) (f:St→St) (hl:AC cs) (h:Ah P F c (f st) Q) (hr:M1 (De P F.I false l.toArray l ss st) (f st)=some (cs,f st):=by kernel_rfl):Ah P F (.seq (.region id l.toArray false) c) st Q:=Ah.rg _ hr hl h
theorem Gq (h1:P.follows .mixedOrders =true) (ss:List Stp) (f:St→St) (hl:AC cs) (h:Ah P F c (f st) Q) (h2:Region.lexB .any l.toArray=true:=by kernel_rfl) (hr:M1 (De P F.I true l.toArray l ss st) (f st)=some (cs,f st):=by kernel_rfl):Ah P F (.seq (.region id l.toArray true) c) st Q:=Rq h1 ss (f st) hl h h2 hr
theorem Ge (ss:List Stp) (f:St→St) (hl:AC cs) (h:Q .normal (f st)) (hr:De P F.I false l.toArray l ss st=some (cs,f st):=by kernel_rfl):Ah P F (.region id l.toArray false) st Q:=Ah.reg hr hl h
theorem Gs (f:St→St) (h:Ah P F c (f st) Q) (hl:RU st (f st)=some (f st):=by kernel_rfl):Ah P F c st Q:=Ah.less (Bk.t hl) h
theorem Gj {X:Type} (S:X→St→St) (Φ:X→Prop) {x y:Code} {Q:Exit→St→Prop} (hx:Ah P F x st (CP (fun st'=> ∃ v,Φ v∧Wk st' (S v st)) Q)) (hy: ∀ v,Φ v→Ah P F y (S v st) Q):Ah P F (.seq x y) st Q:=Sj (fun v=>S v st) Φ hx hy
theorem Gi {σ ρ:Type} {B:σ→Option (σ⊕ρ)} (S:σ→St→St) {N:Nat} {s0:σ} {o:ρ} {c:Code} {Q:Exit→St→Prop} (hi:PL.iter B N s0=some o) (hl:Wk st (S s0 st))
 (hb: ∀ s z,B s=some z→(∀ o',z= .inr o'→o'=o)→Ah P F c (S s st) (CP (fun st'=> ∃ s',z= .inl s'∧Wk st' (S s' st)) Q)):Ah P F (.loop c) st Q:=It (fun v=>S v st) hi hl hb
theorem hS {x y:Code} {Q:Exit→St→Prop} (h:Ah P F x st (CP (fun st'=>Ah P F y st' Q) Q)):Ah P F (.seq x y) st Q:=Ah.seq h
theorem hK (h:Q .normal st):Ah P F .skip st Q:=Ah.skip h
theorem hT (h:K st):Ah P F .skip st (CP K Q):=Ah.skip h
theorem hR (h:Q .ret st):Ah P F .ret st Q:=Ah.ret h
theorem hE {id:Nat} (h:Q (.exit id) st):Ah P F (.exit id) st Q:=Ah.exit h
theorem hB {id:Nat} {c:Code} {Q:Exit→St→Prop} (h:Ah P F c st (Dq id Q)):Ah P F (.block id c) st Q:=Ah.block h
theorem Te {i:Nat} (h:Q (.exit i) st):CP K Q (.exit i) st:=h
theorem qN {i:Nat} (h:Q .normal st):Dq i Q .normal st:=h
theorem qR {i:Nat} (h:Q .ret st):Dq i Q .ret st:=h
theorem qX {i:Nat} (h:Q .normal st):Dq i Q (.exit i) st:=Dq.out h
end
section
variable {α:Type} {e x:α}
theorem kB {e b:Bool} (h:some e=some b):vB e=vB b:=congrArg vB (sI h)
end
section
variable {α β γ δ ε:Type} {r:ε}
theorem o3 {o:Option α} {f:α→Option β} {g:α→β→Option ε} (h:(o.bind fun x=>(f x).bind (g x))=some r): ∃ x,o=some x∧ ∃ y,f x=some y∧g x y=some r:=by
 obtain⟨x,hx,h⟩:=bS h
 simp_all [bS]
theorem o4 {o:Option α} {f:α→Option β} {g:α→β→Option γ} {k:α→β→γ→Option ε} (h:(o.bind fun x=>(f x).bind fun y=>(g x y).bind (k x y))=some r): ∃ x,o=some x∧ ∃ y,f x=some y∧ ∃ z,g x y=some z∧k x y z=some r:=by
 obtain⟨x,hx,h⟩:=bS h
 simp_all [o3]
end
section
variable {P:Program} {F:Fr} {st:St} {K:St→Prop}
theorem iC {cc:Operand} {x y:Code} {Q:Exit→St→Prop} {β:Type} {b:Bool} {X Y:Option β} {r:β} (h:(if b=true then X else Y)=some r) (h1:X=some r→Ah P F x st Q) (h2:Y=some r→Ah P F y st Q) (hc:st.ev cc= .c (.bool b):=by kernel_rfl):Ah P F (.cond cc x y) st Q:=
 Ah.ifB b hc (by grind) (by grind)
end
theorem Bp.bo {P:Program} {I:World→Prop} (hsta:Hz I) {f:FuncId} {fn:Func} {c:Code} {args:List V} {Q:V→Prop} {n:Nat} (hf:P.funcs[f]? =some fn) (hb:fn.body=some c) (hn:fn.ntmps=n) (rs:List ResultVar)
 (h: ∀ w0 av old gv,Ah P ⟨w0,av,old,I,gv⟩ c (St.start args n) (fun e st'=>(e= .normal ∨e= .ret)∧(Cp P st' rs).1∧(Cp P st' rs).2.pure =true∧Q (Cp P st' rs).2))
 (hent:PL.ent P f=true:=by kernel_rfl) (hr:fn.results=rs.toArray:=by kernel_rfl):Bp P I f args Q:=Bp.body hsta hent hf hb hn hr rfl h
end Go.PL
namespace Go.PL
open Go Go.RowKit
end Go.PL
namespace Go.PL
open Go Go.RowKit
def TJ (I:World→Prop) (g:Nat) (tab:List (List UInt8)):Prop:= ∀ w,I w→ ∃ T fz,w.heap[g]? =some (.cells (tab.map fun s=>Value.string ⟨s.toArray⟩).toArray T fz)
theorem R.I {F:Fr} {st:St} {a:Act} {w:World} {G:Au} (h:R F st a w G):F.I w:=h.inv w h.hsize h.ext
theorem VJ {I:World→Prop} {g:Nat} {tab:List (List UInt8)} (h:TJ I g tab) {w:World} (hw:I w) {i:Nat} (hi:i<tab.length):w.cell? ⟨g,i,none⟩=some (.string ⟨(tab.getD i []).toArray⟩):=by
 obtain⟨T,fz,hh⟩:=h w hw
 grind [World.cell?]
section
variable {P:Program} {I:World→Prop} {o:Oper} {st:St} {K:St→Prop}
theorem Dk.gAddr {t:TypeId} {x:Operand} {g n:Nat} {k:IntKind} {i:Int} {E:TypeId} (ho:o.op= .indexAddr t (.global g) x) (hi:0≤i∧i<n) (hK:K (st.put o.dst (.c (.gptr g i.toNat))))
 (hx:st.ev x= .c (.int k i):=by kernel_rfl) (ht:CL P t=some (n,E,1):=by kernel_rfl):Dk P I o st K:=by
 intro F a w G Q hI hR
 have hxv:=hR.ev x
 rw [hx]at hxv
 simp only [Ab,Ac]at hxv
 have hrun:(execOp a.eval o).run P w= .ok (.value (.pointer (some ⟨g,i.toNat,none⟩))) w:=by
  have:=CM ht g 0 k i hi.1 hi.2 w
  rw [Nat.zero_add,Nat.mul_one]at this
  have hgl:a.eval (.global g)= .pointer (some ⟨g,0,none⟩):=rfl
  simp_all [execOp]
 exact Ap hrun ⟨_,G,hK,hR.put (by simp only [Ab,Ac])⟩
theorem Dk.gLoad {t:TypeId} {x:Operand} {g off:Nat} {tab:List (List UInt8)} (ho:o.op= .load t x) (hg:TJ I g tab) (hoff:off<tab.length) (hK:K (st.put o.dst (.c (.str (tab.getD off [])))))
 (hx:st.ev x= .c (.gptr g off):=by kernel_rfl) (ht:Fd P t=some (false,1):=by kernel_rfl):Dk P I o st K:=by
 intro F a w G Q hI hR
 have hxv:=hR.ev x
 rw [hx]at hxv
 simp only [Ab,Ac]at hxv
 obtain⟨d,i,hu,hd,_⟩:=Br ht
 have hc:=VJ hg (hI▸hR.I) hoff
 have hrun:(execOp a.eval o).run P w= .ok (.value (.string ⟨(tab.getD off []).toArray⟩)) w:=by
  simp_all [execOp,Cd]
 exact Ap hrun ⟨_,G,hK,hR.put (by simp only [Ab,Ac])⟩
end
end Go.PL
namespace Go.PL
open Go Go.RowKit
section
variable {α:Type} {l l':List (List α)} {i j:Int} {x:List α} {y y':α} {e:α→List C} {E n:Nat}
end
section
variable {P:Program} {F:Fr} {st:St}
end
end Go.PL
namespace Go.PL
open Go Go.RowKit
inductive Kd where
 | int (k:IntKind)
 | bool
 | str
 | lst (E:Nat)
def KZ (den:Nat→Type):Kd→Type
 | .int _=>Int
 | .bool =>Bool
 | .str =>List UInt8
 | .lst E=>List (den E)
def DK (den:Nat→Type):List Kd→Type
 | []=>Unit
 | k::ks=>KZ den k×DK den ks
def AQ {den:Nat→Type} (enc: ∀ E,den E→List C):(k:Kd)→KZ den k→C
 | .int k,n=> .int k n
 | .bool,b=> .bool b
 | .str,s=> .str s
 | .lst E,l=> .sl l.length (List.flatMap (enc E) l)
def Bf {den:Nat→Type} (enc: ∀ E,den E→List C):(ks:List Kd)→DK den ks→List C
 | [],_=>[]
 | k::ks,x=>AQ enc k x.1::Bf enc ks x.2
structure AN where
 den:Nat→Type
 inh: ∀ E,Inhabited (den E)
 enc: ∀ E,den E→List C
 ks:Nat→List Kd
 un: ∀ E,den E→DK den (ks E)
 bd: ∀ E,DK den (ks E)→den E
 beq: ∀ E,den E→den E→Bool
 unmk: ∀ E y,un E (bd E y)=y
 encok: ∀ E x,Bf enc (ks E) (un E x)=enc E x
 beqok: ∀ E x y,beq E x y=Co (enc E x) (enc E y)
variable {T:AN}
instance (E:Nat):Inhabited (T.den E):=T.inh E
def AN.sz (T:AN) (E:Nat):Nat:=(T.ks E).length
inductive DC (T:AN) where
 | c (x:C)
 | k (kd:Kd) (x:KZ T.den kd)
 | ip (E:Nat) (l:List (T.den E)) (i:Int) (x:T.den E) (off:Nat)
 | rp (id:Ae) (N:Nat) (i:Int) (off:Nat)
 | ap (id:Ae) (base n E:Nat) (i:Int) (off:Nat)
 | bs (id:Ae) (E:Nat) (o n:Int)
 | clo (b:Bool) (f:FuncId) (cs:List (DC T))
mutual
def DC.toC:DC T→C
 | .c x=>x
 | .k kd x=>AQ T.enc kd x
 | .ip E l i _ off=> .iptr (l.flatMap (T.enc E)) (i.toNat*T.sz E+off)
 | .rp id N i off=> .ptr id (i.toNat*N+off)
 | .ap id base _ E i off=> .ptr id (base+i.toNat*T.sz E+off)
 | .bs id E o n=> .rsl id (T.sz E) o.toNat n.toNat
 | .clo true f cs=> .bmv f (Al cs)
 | .clo false f cs=> .clo f (Al cs)
def Al:List (DC T)→List C
 | []=>[]
 | c::cs=>c.toC::Al cs
end
theorem BB: ∀ cs:List (DC T),Al cs=cs.map DC.toC
 | []=>by simp [Al]
 | c::cs=>by simp [Al,BB cs]
structure GL where
 t:Nat
 w:Bool
 b:Bool
def AF:List GL→Bool
 | []=>true
 | [l]=>l.b
 | l::l'::ls=>AF (l'::ls)&&l.b
theorem FW: ∀ {k:List GL},AF k=true↔ ∀ l∈k,l.b=true
 | []=>by simp [AF]
 | [l]=>by simp [AF]
 | l::l'::ls=>by
   simp only [AF,Bool.and_eq_true,FW (k:=l'::ls),List.mem_cons]
   grind
inductive DV (T:AN) where
 | c (x:DC T)
 | agg (cs:List (DC T))
 | tup (vs:List (DV T))
 | g (key:List GL) (v:DV T)
 | u
mutual
def DV.toV:DV T→V
 | .c x=> .c x.toC
 | .agg cs=> .agg (Al cs)
 | .tup vs=> .tup (AH vs)
 | .g key v=> .g (AF key) v.toV
 | .u => .undef
def AH:List (DV T)→List V
 | []=>[]
 | v::vs=>v.toV::AH vs
end
theorem Ih: ∀ vs:List (DV T),AH vs=vs.map DV.toV
 | []=>by simp [AH]
 | v::vs=>by simp [AH,Ih vs]
def OU (T:AN):(k:Kd)→KZ T.den k→C
 | .lst E,l=> .isl E (T.sz E) l.length (List.flatMap (T.enc E) l)
 | .int k,n=> .int k n
 | .bool,b=> .bool b
 | .str,s=> .str s
def Ba (T:AN):(ks:List Kd)→DK T.den ks→List C
 | [],_=>[]
 | k::ks,x=>OU T k x.1::Ba T ks x.2
def AN.denc (T:AN) (E:Nat) (x:T.den E):List C:=Ba T (T.ks E) (T.un E x)
def As (T:AN) (E:Nat) (n:Int):Int→List (T.den E)→List C
 | _,[]=>[]
 | k,x::l=>(if k<n then T.denc E x else T.enc E x)++As T E n (k+1) l
def AP (T:AN) (E:Nat) (n:Int) (l:List (T.den E)):Option (Int×Nat)→List C
 | none=>As T E n 0 l
 | some (i,off)=>(As T E n 0 l).set (i.toNat*T.sz E+off) .any
inductive DX (T:AN) where
 | box (cs:List (DC T))
 | row (E:Nat) (l:List (T.den E))
 | deep (E:Nat) (n:Int) (l:List (T.den E)) (h:Option (Int×Nat))
structure DE (T:AN) where
 id:Ae
 tag:Nat
 x:DX T
def DE.toE (e:DE T):Ak:=match e.x with
 | .box cs=>⟨e.id,none,Al cs,false⟩
 | .row E l=>⟨e.id,some (E,T.sz E,l.length),l.flatMap (T.enc E),true⟩
 | .deep E n l h=>⟨e.id,some (E,T.sz E,l.length),AP T E n l h,true⟩
theorem DE.toE_id (e:DE T):e.toE.id=e.id:=by
 grind [DE.toE]
abbrev Tm (T:AN):=List (Nat×Nat×DV T)
def lk:Tm T→Nat→DV T
 | [],_=> .u
 | (s,_,v)::r,i=>match Nat.beq s i with
   | true=>v
   | false=>lk r i
def OV:Tm T→Nat→Nat
 | [],_=>0
 | (s,t,_)::r,i=>match Nat.beq s i with
   | true=>t+1
   | false=>OV r i
def At (m:Nat) (tm:Tm T):List V:=(List.range m).map fun i=>(lk tm i).toV
structure Ad (T:AN) where
 m:Nat
 tm:Tm T
 so:List (DE T)
 gh:List (Nat×Tm T)
 pre:Ae
 nx:Nat
def Ad.toSt (st:Ad T):St:=⟨At st.m st.tm,st.so.map DE.toE,st.gh.flatMap fun f=>At f.1 f.2,st.pre⟩
mutual
def DC.ok:DC T→Prop
 | .ip _ l i x _=>Gk l i=some x
 | .bs _ _ o n=>0≤o∧0≤n
 | .clo _ _ cs=>Bs cs
 | _=>True
def Bs:List (DC T)→Prop
 | []=>True
 | c::cs=>c.ok∧Bs cs
end
theorem B8: ∀ {cs:List (DC T)},Bs cs↔ ∀ c∈cs,c.ok
 | []=>by simp [Bs]
 | c::cs=>by simp [Bs,B8 (cs:=cs)]
structure Am (T:AN) where
 v:Nat→DV T
 e:Nat→DE T
def TK:DV T→Bool
 | .c (.k .bool b)=>b
 | .g _ (.c (.k .bool b))=>b
 | _=>false
def GL.ok (H:Am T) (nx:Nat) (l:GL):Prop:=l.t<nx∧l.b=(TK (H.v l.t)==l.w)
mutual
def DV.ok (H:Am T) (nx:Nat):DV T→Prop
 | .c x=>x.ok
 | .agg cs=>Bs cs
 | .tup vs=>BR H nx vs
 | .g key v=>(∀ l∈key,l.ok H nx)∧(AF key=true→v.ok H nx)
 | .u =>True
def BR (H:Am T) (nx:Nat):List (DV T)→Prop
 | []=>True
 | v::vs=>v.ok H nx∧BR H nx vs
end
theorem Ii {H:Am T} {nx:Nat}: ∀ {vs:List (DV T)},BR H nx vs↔ ∀ v∈vs,v.ok H nx
 | []=>by simp [BR]
 | c::cs=>by simp [BR,Ii (vs:=cs)]
def JC (H:Am T) (nx:Nat) (tm:Tm T):Prop:= ∀ s t v,(s,t,v)∈tm→t<nx∧H.v t=v∧v.ok H nx
def DX.ok:DX T→Prop
 | .box cs=>Bs cs
 | .row _ _=>True
 | .deep .. =>True
structure Av (H:Am T) (st:Ad T):Prop where
 tm:JC H st.nx st.tm
 gh: ∀ f∈st.gh,JC H st.nx f.2
 so: ∀ e∈st.so,e.tag<st.nx∧H.e e.tag=e∧e.x.ok
 nd:(st.so.map DE.id).Nodup
def B3 (nx:Nat) (H H':Am T):Prop:= ∀ t,t<nx→H'.v t=H.v t∧H'.e t=H.e t
theorem B3.refl (nx:Nat) (H:Am T):B3 nx H H:=fun _ _=>⟨rfl,rfl⟩
theorem B3.trans {n m:Nat} {A B D:Am T} (h:B3 n A B) (k:B3 m B D) (hnm:n≤m):B3 n A D:=fun t ht=>
 ⟨(k t (by grind)).1.trans (h t ht).1,(k t (by grind)).2.trans (h t ht).2⟩
theorem GL.ok_ext {H H':Am T} {n m:Nat} (he:B3 n H H') (hnm:n≤m) {l:GL} (h:l.ok H n):l.ok H' m:=
 ⟨Nat.lt_of_lt_of_le h.1 hnm,by rw [(he l.t h.1).1];exact h.2⟩
mutual
theorem DV.ok_ext {H H':Am T} {n m:Nat} (he:B3 n H H') (hnm:n≤m): ∀ {v:DV T},v.ok H n→v.ok H' m
 | .c _,h=>by grind [DV.ok]
 | .agg _,h=>by grind [DV.ok]
 | .tup vs,h=>by simp only [DV.ok]at h ⊢;exact VK he hnm h
 | .g key v,h=>by
   simp only [DV.ok]at h ⊢
   exact⟨fun l hl=>GL.ok_ext he hnm (h.1 l hl),fun q=>DV.ok_ext he hnm (h.2 q)⟩
 | .u,_=>by simp only [DV.ok]
theorem VK {H H':Am T} {n m:Nat} (he:B3 n H H') (hnm:n≤m): ∀ {vs:List (DV T)},BR H n vs→BR H' m vs
 | [],_=>by simp only [BR]
 | v::vs,h=>by simp only [BR]at h ⊢;exact⟨DV.ok_ext he hnm h.1,VK he hnm h.2⟩
end
theorem Bg {H H':Am T} {n m:Nat} (he:B3 n H H') (hnm:n≤m) {tm:Tm T} (h:JC H n tm):JC H' m tm:=fun s t v hm=>by
 obtain⟨h1,h2,h3⟩:=h s t v hm
 exact⟨(by grind),by rw [(he t h1).1];exact h2,DV.ok_ext he hnm h3⟩
theorem K0 (tm:Tm T) (i:Nat):lk tm i= .u ∧OV tm i=0∨ ∃ t,(i,t,lk tm i)∈tm∧OV tm i=t+1:=by
 induction tm with
 | nil=>exact .inl ⟨rfl,rfl⟩
 | cons x r ih=>
   obtain⟨s,t,v⟩:=x
   simp only [lk,OV]
   cases hb:Nat.beq s i with
   | true=>
     simp_all
   | false=>
     grind
theorem m7 {H:Am T} {nx:Nat} {tm:Tm T} (h:JC H nx tm) (i:Nat):(lk tm i).ok H nx:=by
 rcases K0 tm i with ⟨h1,_⟩ | ⟨t,h1,_⟩
 ·grind [DV.ok]
 ·exact(h i t _ h1).2.2
theorem OW {H:Am T} {nx:Nat} {tm:Tm T} (h:JC H nx tm) {i t:Nat} (ht:OV tm i=t+1):t<nx∧H.v t=lk tm i:=by
 rcases K0 tm i with ⟨_,h1⟩ | ⟨t',h1,h2⟩
 ·grind
 ·rw [h2]at ht;injection ht with ht;subst ht
  obtain⟨a,b,_⟩:=h i t' _ h1
  grind
def M2:Value→Option (DC T)
 | .int k n=>some (.k (.int k) n)
 | .bool b=>some (.k .bool b)
 | .string s=>some (.k .str s.data.toList)
 | v=>match BK v with
   | some c=>some (.c c)
   | none=>none
def FX:List Value→Option (List (DC T))
 | []=>some []
 | v::vs=>match M2 v,FX vs with
   | some c,some cs=>some (c::cs)
   | _,_=>none
def LX:Value→DV T
 | .agg cs=>match FX cs.toList with
   | some l=> .agg l
   | none=> .u
 | v=>match M2 v with
   | some c=> .c c
   | none=> .u
theorem OX {v:Value} {c:DC T} (h:M2 v=some c):BK v=some c.toC∧c.ok:=by
 unfold M2 at h
 split at h
 ·injection h with h;subst h;exact⟨rfl,by simp only [DC.ok]⟩
 ·injection h with h;subst h;exact⟨rfl,by simp only [DC.ok]⟩
 ·injection h with h;subst h;exact⟨rfl,by simp only [DC.ok]⟩
 grind [DC.toC,DC.ok]
theorem OY {v:Value} (h:M2 (T:=T) v=none):BK v=none:=by
 unfold M2 at h
 grind
theorem Ij: ∀ {vs:List Value} {cs:List (DC T)},FX vs=some cs→CD vs=some (Al cs)∧Bs cs
 | [],cs,h=>by grind [FX,CD,Al,Bs]
 | v::vs,cs,h=>by
   unfold FX at h
   split at h
   ·rename_i c cs' h1 h2
    injection h with h;subst h
    obtain⟨a,b⟩:=OX h1
    obtain⟨a',b'⟩:=Ij h2
    simp [CD,a,a',Al,Bs,b,b']
   ·cases h
theorem M3: ∀ {vs:List Value},FX (T:=T) vs=none→CD vs=none
 | [],h=>by simp [FX]at h
 | v::vs,h=>by
   unfold FX at h
   split at h
   ·cases h
   ·rename_i hne
    unfold CD
    cases h1:M2 (T:=T) v with
    | none=>rw [OY h1]
    | some c=>
      cases h2:FX (T:=T) vs with
      | none=>rw [M3 h2];cases BK v<;>rfl
      | some cs=>exact(hne c cs h1 h2).elim
theorem M4 (v:Value) {H:Am T} {nx:Nat}:(LX (T:=T) v).toV =Hv v∧(LX (T:=T) v).ok H nx:=by
 cases v
 case agg cs=>
  simp only [LX,Hv]
  cases h:FX (T:=T) cs.toList with
  | some l=>
    obtain⟨a,b⟩:=Ij h
    simp_all [DV.toV,DV.ok]
  | none=>simp only [M3 h,DV.toV,DV.ok];grind
 all_goals
  simp only [LX,Hv]
  split
  ·rename_i c h
   obtain⟨a,b⟩:=OX h
   simp only [a,DV.toV,DV.ok];exact⟨trivial,b⟩
  ·rename_i h
   simp only [OY h,DV.toV,DV.ok];exact(by grind)
def Ad.get (st:Ad T) (t:Nat):DV T:=match Nat.blt t st.m with
 | true=>lk st.tm t
 | false=> .u
def Ad.ev (st:Ad T):Operand→DV T
 | .tmp t=>st.get t
 | .const v=>LX v
 | .func f=> .c (.c (.fn f))
 | .global _=> .u
theorem G5 (m:Nat) (tm:Tm T) (t:Nat):(At m tm).getD t .undef =(match Nat.blt t m with | true=>(lk tm t).toV | false=> .undef):=by
 unfold At
 rw [List.getD_eq_getElem?_getD,List.getElem?_map]
 cases hb:Nat.blt t m with
 | true=>
   simp_all
 | false=>
   have: ¬t<m:=by
    intro h
    have h2:Nat.blt t m=true:=by simpa using h
    grind
   grind
theorem Ad.get_toSt (st:Ad T) (t:Nat):st.toSt.get t=(st.get t).toV :=by
 show (At st.m st.tm).getD t .undef =_
 grind [G5,Ad.get,DV.toV]
theorem Ad.get_ok {H:Am T} {st:Ad T} (h:Av H st) (t:Nat):(st.get t).ok H st.nx:=by
 unfold Ad.get
 split
 ·exact m7 h.tm t
 ·simp only [DV.ok]
theorem Ad.ev_toSt (st:Ad T) (x:Operand):st.toSt.ev x=(st.ev x).toV :=by
 cases x with
 | tmp t=>exact st.get_toSt t
 | const v=>exact(M4 (T:=T) v (H:=⟨fun _=> .u,fun _=>⟨[],0, .box []⟩⟩) (nx:=0)).1.symm
 | func f=>simp only [St.ev,Ad.ev,DV.toV,DC.toC]
 | global g=>simp only [St.ev,Ad.ev,DV.toV]
theorem Ad.ev_ok {H:Am T} {st:Ad T} (h:Av H st) (x:Operand):(st.ev x).ok H st.nx:=by
 cases x<;>grind [Ad.get_ok,M4,Ad.ev,DV.ok,DC.ok]
def GL.eq (a b:GL):Bool:=Nat.beq a.t b.t&&(a.w==b.w)
def OZ (l:GL):List GL→Bool
 | []=>false
 | a::r=>match GL.eq l a with
   | true=>true
   | false=>OZ l r
def JD:List GL→List GL→Bool
 | [],_=>true
 | l::ls,k=>match OZ l k with
   | true=>JD ls k
   | false=>false
def Df (H:Am T) (nx:Nat) (k:List GL):Prop:= ∀ l∈k,l.ok H nx
theorem GL.eq_b {H:Am T} {nx:Nat} {a b:GL} (h:a.eq b=true) (ha:a.ok H nx) (hb:b.ok H nx):a.b=b.b:=by
 simp only [GL.eq,Bool.and_eq_true,Nat.beq_eq,beq_iff_eq]at h
 rw [ha.2,hb.2,h.1,h.2]
theorem VL {H:Am T} {nx:Nat} {l:GL}: ∀ {k:List GL},OZ l k=true→l.ok H nx→Df H nx k→AF k=true→l.b=true
 | [],h,_,_,_=>by simp [OZ]at h
 | a::r,h,hl,hk,hc=>by
   unfold OZ at h
   have hc':=FW.1 hc
   split at h
   ·rename_i he
    rw [GL.eq_b he hl (hk a (by simp))]
    exact hc' a (by simp)
   ·exact VL h hl (fun x hx=>hk x (by simp [hx])) (FW.2 fun x hx=>hc' x (by simp [hx]))
theorem Ik {H:Am T} {nx:Nat}: ∀ {ls k:List GL},JD ls k=true→Df H nx ls→Df H nx k→AF k=true→AF ls=true
 | [],_,_,_,_,_=>rfl
 | l::ls,k,h,h1,h2,hc=>by
   unfold JD at h
   split at h
   ·rename_i hh
    have a:=VL hh (h1 l (by simp)) h2 hc
    have b:=Ik h (fun x hx=>h1 x (by simp [hx])) h2 hc
    refine FW.2 fun x hx=>?_
    rcases List.mem_cons.1 hx with rfl | hx
    all_goals grind [FW]
   ·cases h
def Ad.arg (st:Ad T) (key:List GL) (x:Operand):Option (DV T):=match st.ev x with
 | .g k v=>match JD k key with
   | true=>some v
   | false=>none
 | v=>some v
theorem Ad.arg_spec {H:Am T} {st:Ad T} {key:List GL} {x:Operand} {v:DV T} (hw:Av H st) (hk:Df H st.nx key) (h:st.arg key x=some v) (hc:AF key=true):
 v.ok H st.nx∧(st.toSt.arg (AF key) x).1∧(st.toSt.arg (AF key) x).2=v.toV:=by
 have hev:=Ad.ev_ok hw x
 have e:=st.ev_toSt x
 unfold Ad.arg at h
 unfold St.arg
 split at h
 ·rename_i k v' hx
  split at h
  ·rename_i hs
   injection h with h;subst h
   rw [hx]at e hev
   simp only [DV.ok]at hev
   simp only [DV.toV]at e
   rw [e]
   have:=Ik hs hev.1 hk hc
   grind
  ·cases h
 ·rename_i hne
  injection h with h;subst h
  refine⟨hev,?_⟩
  rw [e]
  cases hv:st.ev x<;>simp_all [DV.toV]
def M (α:Type):=(R:Type)→(α→Option R)→Option R
namespace M
variable {α β:Type}
def ret (v:α):M α:=fun _ K=>K v
def no:M α:=fun _ _=>none
def sm (o:Option α):M α:=fun _ K=>match o with
 | some v=>K v
 | none=>none
def opt (o:Option β) (f:β→M α):M α:=fun R K=>o.bind fun x=>f x R K
def bnd (m:M β) (f:β→M α):M α:=fun R K=>m R fun x=>f x R K
end M
def Yl {α:Type} (m:M α) (Φ:α→Prop):Prop:= ∀ (R:Type) (K:α→Option R) (r:R),m R K=some r→ ∃ v,Φ v∧K v=some r
namespace Yl
variable {α β:Type} {Φ:α→Prop}
theorem ret {v:α} (h:Φ v):Yl (M.ret v) Φ:=fun _ _ _ hr=>⟨v,h,hr⟩
theorem no:Yl (M.no) Φ:=fun _ _ _ hr=>by cases hr
theorem sm {o:Option α} (h: ∀ v,o=some v→Φ v):Yl (M.sm o) Φ:=fun R K r hr=>by
 unfold M.sm at hr
 grind
theorem opt {o:Option β} {f:β→M α} (h: ∀ x,o=some x→Yl (f x) Φ):Yl (M.opt o f) Φ:=fun R K r hr=>by
 unfold M.opt at hr
 obtain⟨x,h1,h2⟩:=bS hr
 exact h x h1 R K r h2
theorem bnd {m:M β} {f:β→M α} {Ψ:β→Prop} (hm:Yl m Ψ) (h: ∀ x,Ψ x→Yl (f x) Φ):Yl (M.bnd m f) Φ:=fun R K r hr=>by
 obtain⟨v,h1,h2⟩:=hm R _ r hr
 exact h v h1 R K r h2
theorem mono {m:M α} {Ψ:α→Prop} (hm:Yl m Ψ) (h: ∀ x,Ψ x→Φ x):Yl m Φ:=fun R K r hr=>by
 obtain⟨v,h1,h2⟩:=hm R K r hr
 grind
end Yl
def gk {α:Type} [Inhabited α] (key:List GL) (o:Option α):Option α:=match key with
 | []=>o
 | l::ls=>gd (AF (l::ls)) o
theorem K1 {α:Type} [Inhabited α] {key:List GL} {o:Option α} {x:α} (h:gk key o=some x) (hc:AF key=true):o=some x:=by
 unfold gk at h
 grind [Xy]
end Go.PL
namespace Go.PL
open Go Go.RowKit
variable {T:AN}
def M5 {den:Nat→Type} {T:AN} (h: ∀ k,KZ den k→DC T):(ks:List Kd)→DK den ks→List (DC T)
 | [],_=>[]
 | k::ks,x=>h k x.1::M5 h ks x.2
def TL (E:Nat) (x:T.den E):List (DC T):=M5 (fun k y=> .k k y) (T.ks E) (T.un E x)
theorem O0: ∀ (ks:List Kd) (y:DK T.den ks),Al (M5 (T:=T) (fun k y=> .k k y) ks y)=Bf T.enc ks y
 | [],_=>by simp [M5,Al,Bf]
 | k::ks,y=>by simp only [M5,Al,Bf,O0 ks,DC.toC]
theorem DY (E:Nat) (x:T.den E):Al (TL E x)=T.enc E x:=by rw [TL,O0,T.encok]
theorem VM: ∀ (ks:List Kd) (y:DK T.den ks),Bs (M5 (T:=T) (fun k y=> .k k y) ks y)
 | [],_=>by simp [M5,Bs]
 | k::ks,y=>by simp only [M5,Bs,DC.ok];exact⟨trivial,VM ks y.2⟩
theorem HE (E:Nat) (x:T.den E):Bs (TL E x):=VM _ _
theorem RY {den:Nat→Type} {enc: ∀ E,den E→List C}: ∀ (ks:List Kd) (y:DK den ks),(Bf enc ks y).length =ks.length
 | [],_=>rfl
 | k::ks,y=>by simp [Bf,RY ks]
theorem AA (E:Nat) (x:T.den E):(T.enc E x).length =T.sz E:=by rw [←T.encok,RY];rfl
theorem O1 {den:Nat→Type} {enc: ∀ E,den E→List C} (k:Kd) (x:KZ den k):(AQ enc k x).pure =true:=by
 cases k<;>rfl
theorem O2 {den:Nat→Type} {enc: ∀ E,den E→List C}: ∀ (ks:List Kd) (y:DK den ks),Aj (Bf enc ks y)=true
 | [],_=>rfl
 | k::ks,y=>by simp only [Bf,Aj,O1,O2 ks,Bool.and_self]
theorem O3 (E:Nat) (x:T.den E):Aj (T.enc E x)=true:=by rw [←T.encok];exact O2 _ _
theorem az (E:Nat) (l:List (T.den E)):Aj (l.flatMap (T.enc E))=true:=Cc _ (O3 E) l
def Fi (nils:Bool):(k:Kd)→DC T→Option (KZ T.den k)
 | .int k, .k (.int k') n=>match k'==k with
   | true=>some n
   | false=>none
 | .bool, .k .bool b=>some b
 | .str, .k .str s=>some s
 | .lst E, .k (.lst E') l=>match Nat.decEq E' E with
   | .isTrue h=>some (show List (T.den E)from h▸l)
   | .isFalse _=>none
 | .lst E, .c (.sl 0 [])=>some ([]:List (T.den E))
 | .lst E, .c .nils =>match nils with
   | true=>some ([]:List (T.den E))
   | false=>none
 | _,_=>none
def RZ (nils:Bool):(ks:List Kd)→List (DC T)→Option (DK T.den ks)
 | [],[]=>some ()
 | k::ks,c::cs=>match Fi nils k c,RZ nils ks cs with
   | some x,some y=>some (x,y)
   | _,_=>none
 | _,_=>none
def bZ (nils:Bool) (E:Nat) (cs:List (DC T)):Option (T.den E):=match RZ nils (T.ks E) cs with
 | some y=>some (T.bd E y)
 | none=>none
theorem BS {nils:Bool} {k:Kd} {c:DC T} {x:KZ T.den k} (h:Fi nils k c=some x):Ed c.toC=AQ T.enc k x∧(nils=false→c.toC=AQ T.enc k x):=by
 unfold Fi at h
 split at h
 ·split at h
  ·rename_i hb
   have:=beq_iff_eq.1 hb
   subst this
   injection h with h;subst h
   exact⟨rfl,fun _=>rfl⟩
  ·cases h
 ·injection h with h;subst h;exact⟨rfl,fun _=>rfl⟩
 ·injection h with h;subst h;exact⟨rfl,fun _=>rfl⟩
 ·split at h
  ·rename_i e _
   subst e
   injection h with h;subst h
   exact⟨rfl,fun _=>rfl⟩
  ·cases h
 ·injection h with h;subst h;exact⟨rfl,fun _=>rfl⟩
 ·split at h
  ·injection h with h;subst h;exact⟨rfl,fun q=>by cases q⟩
  ·cases h
 ·cases h
theorem O4 {nils:Bool}: ∀ {ks:List Kd} {cs:List (DC T)} {y:DK T.den ks},RZ nils ks cs=some y→(Al cs).map Ed=Bf T.enc ks y∧(nils=false→Al cs=Bf T.enc ks y)
 | [],[],y,_=>by simp [Al,Bf]
 | [],_::_,_,h=>by simp [RZ]at h
 | _::_,[],_,h=>by simp [RZ]at h
 | k::ks,c::cs,y,h=>by
   unfold RZ at h
   split at h
   ·rename_i x y' h1 h2
    injection h with h;subst h
    obtain⟨a1,a2⟩:=BS h1
    obtain⟨b1,b2⟩:=O4 h2
    simp_all [Al,Bf]
   ·cases h
theorem EQ {nils:Bool} {E:Nat} {cs:List (DC T)} {x:T.den E} (h:bZ nils E cs=some x):(Al cs).map Ed=T.enc E x∧(nils=false→Al cs=T.enc E x):=by
 unfold bZ at h
 split at h
 ·rename_i y hy
  injection h with h;subst h
  rw [←T.encok,T.unmk]
  exact O4 hy
 ·cases h
def GJ (E:Nat):Nat→List (DC T)→Option (List (T.den E))
 | 0,_=>some []
 | n+1,cs=>match bZ false E (cs.take (T.sz E)),GJ E n (cs.drop (T.sz E))with
   | some x,some l=>some (x::l)
   | _,_=>none
theorem Fu (n:Nat) (cs:List (DC T)):Al (cs.take n)=(Al cs).take n:=by simp [BB,List.map_take]
theorem DH (n:Nat) (cs:List (DC T)):Al (cs.drop n)=(Al cs).drop n:=by simp [BB,List.map_drop]
theorem BG (a b:List (DC T)):Al (a++b)=Al a++Al b:=by simp [BB]
theorem Ax (a:List (DC T)):(Al a).length =a.length:=by simp [BB]
theorem CU {E:Nat}: ∀ {n:Nat} {cs:List (DC T)} {l:List (T.den E)},GJ E n cs=some l→l.length=n∧ ∃ r,Al cs=l.flatMap (T.enc E)++r
 | 0,cs,l,h=>by simp [GJ]at h;simp_all
 | n+1,cs,l,h=>by
   unfold GJ at h
   split at h
   ·rename_i x l' h1 h2
    injection h with h;subst h
    have a:=(EQ h1).2 rfl
    obtain⟨b1,r,b2⟩:=CU h2
    refine⟨by simp [b1],r,?_⟩
    rw [Fu]at a
    rw [DH]at b2
    rw [List.flatMap_cons,List.append_assoc, ←b2, ←a,List.take_append_drop]
   ·cases h
def B1 (ag:Bool) (off n:Nat) (cs:List (DC T)):DV T:=match ag with
 | true=> .agg ((cs.drop off).take n)
 | false=> .c (cs.getD off (.c .any))
theorem Es (ag:Bool) (off n:Nat) (cs:List (DC T)):(B1 ag off n cs).toV =toV ag off n (Al cs):=by
 cases ag
 ·simp only [B1,DV.toV,toV,BB]
  rw [if_neg (by simp),List.getD_eq_getElem?_getD,List.getD_eq_getElem?_getD,List.getElem?_map]
  grind [DC.toC]
 grind [B1,DV.toV,toV,Fu,DH]
theorem LY {cs:List (DC T)} (h:Bs cs) (n:Nat):Bs (cs.take n):=(by grind [B8])
theorem LZ {cs:List (DC T)} (h:Bs cs) (n:Nat):Bs (cs.drop n):=(by grind [B8])
theorem B9 {a b:List (DC T)} (h:Bs a) (k:Bs b):Bs (a++b):=(by grind [B8])
theorem ER {H:Am T} {nx:Nat} (ag:Bool) (off n:Nat) {cs:List (DC T)} (h:Bs cs):(B1 ag off n cs).ok H nx:=by
 cases ag<;>grind [B1,DV.ok,DC.ok,B8]
def AG:Ae→Ae→Bool
 | [],[]=>true
 | a::x,b::y=>match Nat.beq a b with
   | true=>AG x y
   | false=>false
 | _,_=>false
theorem Az: ∀ {a b:Ae},AG a b=true↔a=b
 | [],[]=>by simp [AG]
 | [],_::_=>by simp [AG]
 | _::_,[]=>by simp [AG]
 | a::x,b::y=>by
   unfold AG
   cases h:Nat.beq a b with
   | true=>
     have:=Nat.eq_of_beq_eq_true h
     subst this
     simp [Az (a:=x) (b:=y)]
   | false=>
     have:a ≠ b:=fun e=>by subst e;simp at h
     simp [this]
def YY:List (DC T)→Bool
 | [.c (.mp _)]=>true
 | _=>false
def ES:List (DE T)→Ae→Option (DE T)
 | [],_=>none
 | e::r,id=>match AG e.id id with
   | true=>some e
   | false=>ES r id
def DX.isM:DX T→Bool
 | .box cs=>YY cs
 | .row _ _=>false
 | .deep .. =>false
def Ad.look (st:Ad T) (id:Ae):Option (DX T):=match BX id||Db id with
 | true=>none
 | false=>match ES st.so id with
   | some e=>match e.x.isM with
     | true=>none
     | false=>some e.x
   | none=>none
theorem Cf: ∀ {l:List (DE T)} {id:Ae} {e:DE T},ES l id=some e→e∈l∧e.id=id∧ ∀ p:Ak→Bool,(∀ x:DE T,x.id ≠ id→p x.toE=false)→p e.toE=true→(l.map DE.toE).find? p=some e.toE
 | [],_,_,h=>by simp [ES]at h
 | x::r,id,e,h=>by
   unfold ES at h
   split at h
   ·rename_i hb
    injection h with h;subst h
    exact⟨by simp,Az.1 hb,fun p _ hp=>by simp [List.find?_cons,hp]⟩
   ·rename_i hb
    obtain⟨h1,h2,h3⟩:=Cf h
    refine⟨by simp [h1],h2,fun p hp he=>?_⟩
    have hne:x.id ≠ id:=fun q=>by rw [Az.2 q]at hb;cases hb
    rw [List.map_cons,List.find?_cons,hp x hne]
    exact h3 p hp he
theorem R1 {cs:List (DC T)} (h:YY cs=false) (hk: ∀ c∈cs, ∀ kv,c.toC= .mp kv→c= .c (.mp kv)):ST (Al cs)=false:=by
 match cs with
 | []=>rfl
 | [c]=>
   simp only [Al,ST]
   grind [YY]
 | a::b::r=>
   simp only [Al]
   generalize a.toC=x
   generalize b.toC=y
   generalize Al r=z
   cases x<;>rfl
theorem cU (c:DC T) (kv:List (Int×Int)) (h:c.toC= .mp kv):c= .c (.mp kv):=by
 cases c with
 | c x=>grind [DC.toC]
 | k kd x=>cases kd<;>simp [DC.toC,AQ]at h
 | ip=>simp [DC.toC]at h
 | rp=>simp [DC.toC]at h
 | ap=>simp [DC.toC]at h
 | bs=>simp [DC.toC]at h
 | clo b f cs=>cases b<;>simp [DC.toC]at h
theorem Ad.look_spec {st:Ad T} {id:Ae} {x:DX T} (h:st.look id=some x): ∃ e,e∈st.so∧e.id=id∧e.x=x∧st.toSt.look id=some e.toE∧st.toSt.lookR id=some e.toE∧Db id=false∧BX id=false:=by
 unfold Ad.look at h
 split at h
 ·cases h
 ·rename_i hd
  simp only [Bool.or_eq_false_iff]at hd
  split at h
  ·rename_i e he
   split at h
   ·cases h
   ·rename_i hm
    injection h with h;subst h
    obtain⟨h1,h2,h3⟩:=Cf he
    have hM:e.toE.isM=false:=by
     unfold DE.toE Ak.isM
     cases hx:e.x with
     | box cs=>
       rw [hx]at hm
       exact R1 hm (fun c _ kv q=>cU c kv q)
     | row E l=>rfl
     | deep E n l h=>rfl
    have hid:=e.toE_id
    refine⟨e,h1,h2,rfl,?_,?_,hd.2,hd.1⟩
    ·refine h3 _ (fun y hy=>?_) ?_
     all_goals grind [DE.toE_id]
    ·refine h3 _ (fun y hy=>?_) ?_
     all_goals grind [DE.toE_id]
  ·cases h
theorem DE.toE_box {e:DE T} {cs:List (DC T)} (h:e.x= .box cs):e.toE=⟨e.id,none,Al cs,false⟩:=by unfold DE.toE;rw [h]
theorem DE.toE_row {e:DE T} {E:Nat} {l:List (T.den E)} (h:e.x= .row E l):e.toE=⟨e.id,some (E,T.sz E,l.length),l.flatMap (T.enc E),true⟩:=by unfold DE.toE;rw [h]
def Ds (ag:Bool) (off n N:Nat):Bool:=Nat.ble (off+n) N&&(ag||Nat.blt 0 n)
theorem BH {ag:Bool} {off n N:Nat} (h:Ds ag off n N=true):off+n≤N∧(ag=true∨0<n):=by
 simp_all [Ds]
def FY (st:Ad T) (id:Ae):Option (List (DC T)):=match st.look id with
 | some (.box cs)=>some cs
 | _=>none
def CJ (st:Ad T) (id:Ae):Option ((E:Nat)×List (T.den E)):=match st.look id with
 | some (.row E l)=>some ⟨E,l⟩
 | _=>none
theorem Et {st:Ad T} {id:Ae} {cs:List (DC T)} (h:FY st id=some cs):st.toSt.look id=some ⟨id,none,Al cs,false⟩∧st.toSt.lookR id=some ⟨id,none,Al cs,false⟩∧ ∃ e∈st.so,e.id=id∧e.x= .box cs:=by
 unfold FY at h
 split at h
 ·rename_i cs' hl
  injection h with h;subst h
  obtain⟨e,h1,h2,h3,h4,h5,_⟩:=Ad.look_spec hl
  grind [DE.toE_box]
 ·cases h
theorem Be {st:Ad T} {id:Ae} {E:Nat} {l:List (T.den E)} (h:CJ st id=some ⟨E,l⟩):st.toSt.look id=some ⟨id,some (E,T.sz E,l.length),l.flatMap (T.enc E),true⟩∧st.toSt.lookR id=some ⟨id,some (E,T.sz E,l.length),l.flatMap (T.enc E),true⟩∧ ∃ e∈st.so,e.id=id∧e.x= .row E l:=by
 unfold CJ at h
 split at h
 ·rename_i E' l' hl
  injection h with h
  injection h with h1 h2
  subst h1
  have h2:=eq_of_heq h2
  subst h2
  obtain⟨e,h1,h2,h3,h4,h5,_⟩:=Ad.look_spec hl
  grind [DE.toE_row]
 ·cases h
theorem K2 {H:Am T} {st:Ad T} (hw:Av H st) {id:Ae} {cs:List (DC T)} (h:FY st id=some cs):Bs cs:=by
 obtain⟨_,_,e,h1,_,h3⟩:=Et h
 have:=(hw.so e h1).2.2
 rw [h3]at this
 exact this
def FZ (st:Ad T) (id:Ae):Option ((E:Nat)×(Int×List (T.den E)×Option (Int×Nat))):=match BX id with
 | true=>none
 | false=>match ES st.so id with
   | some e=>match e.x with
     | .deep E n l h=>some ⟨E,(n,l,h)⟩
     | _=>none
   | none=>none
theorem Bl {st:Ad T} {id:Ae} {E:Nat} {n:Int} {l:List (T.den E)} {h:Option (Int×Nat)} (hr:FZ st id=some ⟨E,(n,l,h)⟩):BX id=false∧st.toSt.lookR id=some ⟨id,some (E,T.sz E,l.length),AP T E n l h,true⟩∧ ∃ e∈st.so,e.id=id∧e.x= .deep E n l h:=by
 unfold FZ at hr
 split at hr
 ·cases hr
 ·rename_i hmk
  split at hr
  ·rename_i e he
   split at hr
   ·rename_i E' n' l' h' hx
    injection hr with hr
    injection hr with h1 h2
    subst h1
    have h2:=eq_of_heq h2
    injection h2 with h2 h3
    injection h3 with h3 h4
    subst h2 h3 h4
    obtain⟨a,b,c⟩:=Cf he
    have hE:e.toE=⟨id,some (E',T.sz E',l'.length),AP T E' n' l' h',true⟩:=by grind [DE.toE]
    refine⟨hmk,?_,e,a,b,hx⟩
    rw [←hE]
    refine c _ (fun y hy=>?_) ?_
    all_goals grind [DE.toE_id,Ak.isM]
   ·cases hr
  ·cases hr
def YZ (st:Ad T) (id:Ae):Option ((E:Nat)×List (T.den E)):=match CJ st id with
 | some r=>some r
 | none=>match FZ st id with
   | some ⟨E,(_,l,_)⟩=>some ⟨E,l⟩
   | none=>none
theorem O5 {st:Ad T} {id:Ae} {E:Nat} {l:List (T.den E)} (h:YZ st id=some ⟨E,l⟩): ∃ e,st.toSt.lookR id=some e∧e.row=some (E,T.sz E,l.length):=by
 unfold YZ at h
 split at h
 ·rename_i r hr
  injection h with h
  subst h
  exact⟨_,(Be hr).2.1,rfl⟩
 ·split at h
  ·rename_i E' n' l' h' hr
   injection h with h
   injection h with h1 h2
   subst h1
   have h2:=eq_of_heq h2
   subst h2
   exact⟨_,(Bl hr).2.1,rfl⟩
  ·cases h
theorem O6: ∀ (ks:List Kd) (y:DK T.den ks),(Ba T ks y).length =ks.length
 | [],_=>rfl
 | k::ks,y=>by simp only [Ba,List.length_cons,O6 ks y.2]
theorem CW (E:Nat) (x:T.den E):(T.denc E x).length =T.sz E:=O6 _ _
theorem F2 (E:Nat) (n:Int): ∀ (k:Int) (l:List (T.den E)),(As T E n k l).length =l.length*T.sz E
 | _,[]=>by simp [As]
 | k,x::l=>by
   rw [As,List.length_append,F2 E n (k+1) l,List.length_cons,Nat.add_mul,Nat.one_mul,Nat.add_comm]
   grind [CW,AA]
theorem Dg (E:Nat) (n:Int) (l:List (T.den E)) (h:Option (Int×Nat)):(AP T E n l h).length =l.length*T.sz E:=by
 unfold AP
 grind [F2]
theorem F3 {E:Nat} {n:Int}: ∀ {l:List (T.den E)} {k:Int} {i:Nat} {x:T.den E} {p:Nat},l[i]? =some x→p<T.sz E→(As T E n k l)[i*T.sz E+p]? =(if k+i<n then T.denc E x else T.enc E x)[p]?
 | [],_,_,_,_,h,_=>by simp at h
 | y::l,k,0,x,p,h,hp=>by
   simp only [List.getElem?_cons_zero,Option.some.injEq]at h
   subst h
   rw [As,Nat.zero_mul,Nat.zero_add,List.getElem?_append_left]
   all_goals grind [CW,AA]
 | y::l,k,i+1,x,p,h,hp=>by
   have hl:(if k<n then T.denc E y else T.enc E y).length =T.sz E:=by
    grind [CW,AA]
   rw [As,List.getElem?_append_right (by rw [hl,Nat.add_mul,Nat.one_mul];omega),hl,show (i+1)*T.sz E+p - T.sz E=i*T.sz E+p by rw [Nat.add_mul,Nat.one_mul];omega]
   rw [F3 (by simpa using h) hp]
   congr 2
   push_cast
   rw [show k+1+(i:Int)=k+((i:Int)+1) by omega]
def IU:Kd→Bool
 | .lst _=>false
 | _=>true
theorem R2: ∀ {ks:List Kd} {y:DK T.den ks} {p:Nat},(∀ k,ks[p]? =some k→IU k=true)→(Ba T ks y)[p]? =(Bf T.enc ks y)[p]?
 | [],_,_,_=>rfl
 | k::ks,y,0,h=>by
   have:=h k rfl
   simp only [Ba,Bf,List.getElem?_cons_zero,Option.some.injEq]
   cases k<;>first | rfl | cases this
 | k::ks,y,p+1,h=>by
   simp only [Ba,Bf,List.getElem?_cons_succ]
   exact R2 (fun k' hk=>h k' (by simpa using hk))
def VN (h:Option (Int×Nat)) (off n:Nat):Bool:=match h with
 | none=>true
 | some (_,o)=> !(Nat.ble off o&&Nat.blt o (off+n))
def XC (T:AN) (E off n:Nat) (h:Option (Int×Nat)):Bool:=(((T.ks E).drop off).take n).all IU&&VN h off n
theorem XD {i j N p q:Nat} (hp:p<N) (hq:q<N) (h:i*N+p=j*N+q):p=q:=by
 grind [Nat.mul_comm,Nat.mul_add_mod,Nat.mod_eq_of_lt]
theorem cV {E:Nat} {nn:Int} {l:List (T.den E)} {h:Option (Int×Nat)} {i:Nat} {x:T.den E} {p:Nat} (hx:l[i]? =some x) (hp:p<T.sz E) (hf: ∀ k,(T.ks E)[p]? =some k→IU k=true) (hh: ∀ j o,h=some (j,o)→o ≠ p∧o<T.sz E):
 (AP T E nn l h)[i*T.sz E+p]? =(T.enc E x)[p]? :=by
 have base:(As T E nn 0 l)[i*T.sz E+p]? =(T.enc E x)[p]? :=by
  rw [F3 hx hp]
  split
  ·rw [AN.denc,R2 hf,T.encok]
  ·rfl
 unfold AP
 split
 ·exact base
 ·rename_i j o
  rw [List.getElem?_set_ne]
  ·exact base
  ·intro e
   obtain⟨h1,h2⟩:=hh j o rfl
   exact h1 (XD h2 hp e)
theorem cW {E:Nat} {nn:Int} {l:List (T.den E)} {h:Option (Int×Nat)} {i:Int} {x:T.den E} {off n:Nat} {ag:Bool} (hx:Gk l i=some x) (ho:Ds ag off n (T.sz E)=true) (hd:XC T E off n h=true) (hb: ∀ j o,h=some (j,o)→o<T.sz E):
 i.toNat*T.sz E+off+n≤(AP T E nn l h).length ∧toV ag (i.toNat*T.sz E+off) n (AP T E nn l h)=(B1 (T:=T) ag off n (TL E x)).toV :=by
 obtain⟨h1,h2⟩:=BH ho
 have hi:=Fh hx
 have hxx:l[i.toNat]? =some x:=by
  have:=Vy hx
  grind
 have hle:i.toNat*T.sz E+T.sz E≤l.length*T.sz E:=by
  have:(i.toNat+1)*T.sz E≤l.length*T.sz E:=Nat.mul_le_mul_right _ (by omega)
  grind
 simp only [XC,Bool.and_eq_true,List.all_eq_true]at hd
 have key: ∀ p,off≤p→p<off+n→(AP T E nn l h)[i.toNat*T.sz E+p]? =(T.enc E x)[p]? :=fun p p1 p2=>by
  refine cV hxx (by omega) (fun k hk=>?_) (fun j o e=>⟨fun eo=>?_,hb j o e⟩)
  ·refine hd.1 k ?_
   refine List.mem_of_getElem? (i:=p - off) ?_
   grind
  grind [VN,Nat.ble_eq_true_of_le,Nat.blt]
 refine⟨by rw [Dg];omega,?_⟩
 rw [Es,DY]
 unfold toV
 have hlen:(AP T E nn l h).length =l.length*T.sz E:=Dg _ _ _ _
 split
 ·congr 1
  apply List.ext_getElem?
  grind
 grind
theorem aA {E:Nat} {nn:Int} {l:List (T.den E)} {i:Int} {x:T.den E} {off n:Nat} {ag:Bool} (hx:Gk l i=some x) (hn:nn≤i) (ho:Ds ag off n (T.sz E)=true):
 i.toNat*T.sz E+off+n≤(AP T E nn l none).length ∧toV ag (i.toNat*T.sz E+off) n (AP T E nn l none)=(B1 (T:=T) ag off n (TL E x)).toV :=by
 obtain⟨h1,h2⟩:=BH ho
 have hi:=Fh hx
 have hxx:l[i.toNat]? =some x:=by
  have:=Vy hx
  grind
 have hle:i.toNat*T.sz E+T.sz E≤l.length*T.sz E:=by
  have:(i.toNat+1)*T.sz E≤l.length*T.sz E:=Nat.mul_le_mul_right _ (by omega)
  grind
 have key: ∀ p,off≤p→p<off+n→(AP T E nn l none)[i.toNat*T.sz E+p]? =(T.enc E x)[p]? :=fun p p1 p2=>by
  show (As T E nn 0 l)[_]? =_
  rw [F3 hxx (by omega),if_neg (by omega)]
 refine⟨by rw [Dg];omega,?_⟩
 rw [Es,DY]
 unfold toV
 have hlen:(AP T E nn l none).length =l.length*T.sz E:=Dg _ _ _ _
 split
 ·congr 1
  apply List.ext_getElem?
  grind
 grind
def cX (N:Nat):Option (Int×Nat)→Bool
 | none=>true
 | some (_,o)=>Nat.blt o N
def VO (P:Program) (t:TypeId) (key:List GL) (st:Ad T) (v:DV T):M (DV T):=
 match Fd P t with
 | none=> .no
 | some (ag,n)=>match v with
   | .c (.c (.ptr id off))=>match FY st id with
     | some cs=>match Ds ag off n cs.length with
       | true=> .ret (B1 ag off n cs)
       | false=> .no
     | none=> .no
   | .c (.ip E _ _ x off)=>match Ds ag off n (T.sz E)with
     | true=> .ret (B1 ag off n (TL E x))
     | false=> .no
   | .c (.rp id N i off)=>match CJ st id with
     | some ⟨E,l⟩=>match Nat.beq (T.sz E) N&&Ds ag off n N with
       | true=> .opt (gk key (Gk l i)) fun x=> .ret (B1 ag off n (TL E x))
       | false=> .no
     | none=>match FZ st id with
       | some ⟨E,(nn,l,h)⟩=>match Nat.beq (T.sz E) N&&(Ds ag off n N&&(XC T E off n h&&cX (T.sz E) h))with
         | true=> .opt (gk key (Gk l i)) fun x=> .ret (B1 ag off n (TL E x))
         | false=>match Nat.beq (T.sz E) N&&(Ds ag off n N&&h.isNone)with
           | true=> .opt (gk key (Gk l i)) fun x=> .opt (gk key (Fb (nn≤i))) fun _=> .ret (B1 ag off n (TL E x))
           | false=> .no
       | none=> .no
   | .c (.ap id base m E i off)=>match FY st id with
     | some cs=>match GJ E m (cs.drop base),Ds ag off n (T.sz E)&&Nat.ble base cs.length with
       | some l,true=> .opt (gk key (Gk l i)) fun x=> .ret (B1 ag off n (TL E x))
       | _,_=> .no
     | none=> .no
   | _=> .no
def Rd (H:Am T) (P:Program) (st:Ad T) (key:List GL) (op:Op) (v:DV T):Prop:=
 AF key=true→v.ok H st.nx∧(CA P st.toSt (AF key) op).1∧(CA P st.toSt (AF key) op).2=v.toV
theorem VP {E:Nat} {l:List (T.den E)} {i:Int} {x:T.den E} {off n:Nat} {ag:Bool} (hx:Gk l i=some x) (ho:Ds ag off n (T.sz E)=true):
 i.toNat*T.sz E+off+n≤(l.flatMap (T.enc E)).length ∧toV ag (i.toNat*T.sz E+off) n (l.flatMap (T.enc E))=(B1 (T:=T) ag off n (TL E x)).toV :=by
 obtain⟨h1,h2⟩:=BH ho
 refine TH hx (fun y=>AA E y) rfl h1 h2 ?_
 rw [Es,DY]
theorem O7 {H:Am T} {P:Program} {t:TypeId} {key:List GL} {st:Ad T} {v:DV T} (hw:Av H st) (hv:AF key=true→v.ok H st.nx):
 Yl (VO P t key st v) (fun r=>AF key=true→r.ok H st.nx∧(Cy P t st.toSt v.toV).1∧(Cy P t st.toSt v.toV).2=r.toV):=by
 unfold VO
 split
 ·exact Yl.no
 ·rename_i ag n ht
  split
  ·rename_i id off
   split
   ·rename_i cs hb
    split
    ·rename_i ho
     obtain⟨h1,h2⟩:=BH ho
     refine Yl.ret fun _=>⟨ER _ _ _ (K2 hw hb),?_⟩
     simp only [DV.toV,DC.toC,Cy,ht,(Et hb).2.1]
     rw [Es,Ax]
     grind
    ·exact Yl.no
   ·exact Yl.no
  ·rename_i E l i x off
   split
   ·rename_i ho
    refine Yl.ret fun hc=>⟨ER _ _ _ (HE E x),?_⟩
    have hx:=hv hc
    simp only [DV.ok,DC.ok]at hx
    obtain⟨a,b⟩:=VP (T:=T) hx ho
    simp only [DV.toV,DC.toC,Cy,ht]
    exact⟨⟨a,(BH ho).2⟩,b⟩
   ·exact Yl.no
  ·rename_i id N i off
   split
   ·rename_i E l hb
    split
    ·rename_i ho
     simp only [Bool.and_eq_true,Nat.beq_eq]at ho
     obtain⟨e,ho⟩:=ho
     subst e
     refine Yl.opt fun x hx=>Yl.ret fun hc=>⟨ER _ _ _ (HE E x),?_⟩
     obtain⟨a,b⟩:=VP (T:=T) (K1 hx hc) ho
     simp only [DV.toV,DC.toC,Cy,ht,(Be hb).2.1]
     exact⟨⟨a,(BH ho).2⟩,b⟩
    ·exact Yl.no
   ·split
    ·rename_i E nn l h hr
     split
     ·rename_i ho
      simp only [Bool.and_eq_true,Nat.beq_eq]at ho
      obtain⟨e,ho,hd,hi⟩:=ho
      subst e
      refine Yl.opt fun x hx=>Yl.ret fun hc=>⟨ER _ _ _ (HE E x),?_⟩
      obtain⟨a,b⟩:=cW (T:=T) (nn:=nn) (K1 hx hc) ho hd (fun j o e=>by simp_all [cX])
      simp only [DV.toV,DC.toC,Cy,ht,(Bl hr).2.1]
      exact⟨⟨a,(BH ho).2⟩,b⟩
     ·split
      ·rename_i ho
       simp only [Bool.and_eq_true,Nat.beq_eq,Option.isNone_iff_eq_none]at ho
       obtain⟨e,ho,hn⟩:=ho
       subst e hn
       refine Yl.opt fun x hx=>Yl.opt fun u hu=>Yl.ret fun hc=>⟨ER _ _ _ (HE E x),?_⟩
       obtain⟨a,b⟩:=aA (T:=T) (nn:=nn) (K1 hx hc) (BP (K1 hu hc)) ho
       simp only [DV.toV,DC.toC,Cy,ht,(Bl hr).2.1]
       exact⟨⟨a,(BH ho).2⟩,b⟩
      ·exact Yl.no
    ·exact Yl.no
  ·rename_i id base m E i off
   split
   ·rename_i cs hb
    split
    ·rename_i l hl ho
     refine Yl.opt fun x hx=>Yl.ret fun hc=>⟨ER _ _ _ (HE E x),?_⟩
     simp only [Bool.and_eq_true,Nat.ble_eq]at ho
     obtain⟨ho,hbase⟩:=ho
     obtain⟨h1,h2⟩:=BH ho
     obtain⟨hlen,r,hr⟩:=CU hl
     rw [DH]at hr
     have:=Xz (cs:=Al cs) (pre:=(Al cs).take base) (post:=r) (base:=base) (e:=T.enc E) (N:=T.sz E) (o:=off) (n:=n) (ag:=ag) (v:=(B1 (T:=T) ag off n (TL E x)).toV) (off:=base+i.toNat*T.sz E+off)
      (by grind [List.take_append_drop]) (by grind [Ax]) (K1 hx hc) (fun y=>AA E y) (by omega) h1 h2 (by rw [Es,DY])
     simp_all [DV.toV,DC.toC,Cy,Et]
    ·exact Yl.no
   ·exact Yl.no
  ·exact Yl.no
end Go.PL
namespace Go.PL
open Go Go.RowKit
variable {T:AN}
def O8 (st:Ad T):Operand→Nat
 | .tmp t=>match Nat.blt t st.m with
   | true=>OV st.tm t
   | false=>0
 | _=>0
def L2 (key:List GL) (tc:Nat) (w p:Bool):List GL:=match tc with
 | 0=>key
 | t+1=>⟨t,w,p==w⟩::key
def L3:DV T→Option (List GL×Bool)
 | .c (.k .bool q)=>some ([],q)
 | .g k (.c (.k .bool q))=>some (k,q)
 | _=>none
def cY (key:List GL) (tc:Nat) (p:Bool) (a b:DV T):M (DV T):=
 match L3 a,L3 b with
 | some (ka,q),some (kb,r)=>match JD ka (L2 key tc true p),JD kb (L2 key tc false p)with
   | true,true=> .ret (.c (.k .bool (if p=true then q else r)))
   | _,_=> .no
 | _,_=> .no
def O9 (op:BinOp) (k:IntKind) (a b:Int):DC T:=
 match op with
 | .add => .k (.int k) (k.wrap (a+b))
 | .sub => .k (.int k) (k.wrap (a - b))
 | .mul => .k (.int k) (k.wrap (a*b))
 | .quo => .k (.int k) (k.wrap (a.tdiv b))
 | .rem => .k (.int k) (a.tmod b)
 | .and => .k (.int k) (jP k a b)
 | .or => .k (.int k) (YI k a b)
 | .xor => .k (.int k) (SV k a b)
 | .andNot => .k (.int k) (SW k a b)
 | .shl => .k (.int k) (k.wrap (a*2 ^ (min b.toNat k.bits)))
 | .shr => .k (.int k) (a.fdiv (2 ^ (min b.toNat k.bits)))
 | .eql => .k .bool (a==b)
 | .neq => .k .bool (a != b)
 | .lss => .k .bool (decide (a<b))
 | .leq => .k .bool (decide (a≤b))
 | .gtr => .k .bool (decide (b<a))
 | .geq => .k .bool (decide (b≤a))
theorem cZ (op:BinOp) (k:IntKind) (a b:Int):(O9 (T:=T) op k a b).toC =(EJ op k a b).2∧(O9 (T:=T) op k a b).ok :=by
 cases op<;>exact⟨rfl,by simp only [O9,DC.ok]⟩
def m8 (op:BinOp) (a b:List UInt8):Option (DC T):=
 match op with
 | .eql =>some (.k .bool (a==b))
 | .neq =>some (.k .bool (a != b))
 | .lss =>some (.k .bool (Op.bytesLess a b))
 | .leq =>some (.k .bool (Op.bytesLess a b||a==b))
 | .gtr =>some (.k .bool (!(Op.bytesLess a b||a==b)))
 | .geq =>some (.k .bool (!Op.bytesLess a b))
 | _=>none
def VQ (op:BinOp) (b:Bool):Option (DC T):=
 match op with
 | .eql =>some (.k .bool b)
 | .neq =>some (.k .bool !b)
 | _=>none
def mIf {α:Type} (b:Bool) (m:M α):M α:=match b with
 | true=>m
 | false=> .no
theorem Yl.mIf {α:Type} {Φ:α→Prop} {b:Bool} {m:M α} (h:b=true→Yl m Φ):Yl (PL.mIf b m) Φ:=by
 cases b with
 | true=>exact h rfl
 | false=>exact Yl.no
def c8:Operand→Bool
 | .const (.int _ n)=> !(decide (n=0))
 | _=>false
def c9:Operand→Bool
 | .const (.int _ n)=>decide (0≤n)
 | _=>false
def nd (lit:Bool) (key:List GL) (p:Prop) [Decidable p] (v:DV T):M (DV T):=match lit with
 | true=> .ret v
 | false=> .opt (gk key (Fb p)) fun _=> .ret v
def da (op:BinOp) (key:List GL) (nz nn:Bool) (k:IntKind) (a b:Int):M (DV T):=
 match op with
 | .quo =>nd nz key (b ≠ 0) (.c (O9 .quo k a b))
 | .rem =>nd nz key (b ≠ 0) (.c (O9 .rem k a b))
 | .shl =>nd nn key (0≤b) (.c (O9 .shl k a b))
 | .shr =>nd nn key (0≤b) (.c (O9 .shr k a b))
 | op=> .ret (.c (O9 op k a b))
def jr (op:BinOp) (key:List GL) (a b:List UInt8):M (DV T):=
 match op with
 | .add => .opt (gk key (mU a b)) fun s=> .ret (.c (.k .str s))
 | op=>match m8 op a b with
   | some v=> .ret (.c v)
   | none=> .no
def jt (op:BinOp) (a b:Bool):M (DV T):=
 match op with
 | .eql => .ret (.c (.k .bool (a==b)))
 | .neq => .ret (.c (.k .bool (a != b)))
 | _=> .no
def kz (P:Program) (op:BinOp) (t:TypeId) (key:List GL) (kc nz nn:Bool) (x y:DV T):M (DV T):=
 match x,y with
 | .c (.k (.int k) a), .c (.k (.int k') b)=>mIf (mT op k k') (da op key nz nn k a b)
 | .c (.k .str a), .c (.k .str b)=>jr op key a b
 | .c (.k .bool a), .c (.k .bool b)=>mIf (LE P t) (jt op a b)
 | .c (.c .niface), .c (.c .niface)=>mIf (kc&&Fl P t)<|match VQ op true with
   | some v=> .ret (.c v)
   | none=> .no
 | .c (.c .held), .c (.c .niface)=>mIf (Fl P t)<|match VQ op false with
   | some v=> .ret (.c v)
   | none=> .no
 | .c (.c (.ptr _ _)), .c (.c .nilp)=>mIf (FF P t)<|match VQ op false with
   | some v=> .ret (.c v)
   | none=> .no
 | .c (.c .nilp), .c (.c .nilp)=>mIf (FF P t)<|match VQ op true with
   | some v=> .ret (.c v)
   | none=> .no
 | .c (.rp _ _ _ _), .c (.c .nilp)=>mIf (FF P t)<|match VQ op false with
   | some v=> .ret (.c v)
   | none=> .no
 | .c (.ip _ _ _ _ _), .c (.c .nilp)=>mIf (FF P t)<|match VQ op false with
   | some v=> .ret (.c v)
   | none=> .no
 | .agg cs, .agg ds=>match bZ false t cs,bZ false t ds with
   | some x,some y=>mIf (Vi P t (Al cs) (Al ds))<|match op with
     | .eql => .ret (.c (.k .bool (T.beq t x y)))
     | .neq => .ret (.c (.k .bool !(T.beq t x y)))
     | _=> .no
   | _,_=> .no
 | _,_=> .no
section
variable {H:Am T} {P:Program} {st:Ad T} {key:List GL}
theorem R3 (hw:Av H st) (hk:Df H st.nx key) {c:Operand} {p:Bool} (hp:st.arg key c=some (.c (.k .bool p))) (w:Bool):Df H st.nx (L2 key (O8 st c) w p):=by
 unfold L2
 split
 ·exact hk
 ·rename_i t ht
  intro l hl
  rcases List.mem_cons.1 hl with rfl | hl
  ·unfold O8 at ht
   split at ht
   ·rename_i i
    split at ht
    ·rename_i hb
     obtain⟨h1,h2⟩:=OW hw.tm ht
     refine⟨h1,?_⟩
     show (p==w)=(TK (H.v t)==w)
     rw [h2]
     have e:st.ev (.tmp i)=lk st.tm i:=by show st.get i=_;unfold Ad.get;rw [hb]
     unfold Ad.arg at hp
     rw [e]at hp
     split at hp
     ·rename_i k v hv
      split at hp
      ·injection hp with hp;subst hp;rw [hv];rfl
      ·cases hp
     ·injection hp with hp;rw [hp];rfl
    ·cases ht
   ·cases ht
  ·exact hk l hl
theorem M6 {tc:Nat} {w p:Bool} (hc:AF key=true) (hp:p=w):AF (L2 key tc w p)=true:=by
 unfold L2
 split
 ·exact hc
 ·refine FW.2 fun l hl=>?_
  rcases List.mem_cons.1 hl with rfl | hl
  all_goals grind [FW]
theorem M7 {v:DV T} {k:List GL} {q:Bool} (h:L3 v=some (k,q)):Jo v.toV=some (AF k,q):=by
 unfold L3 at h
 split at h
 ·injection h with h;injection h with h1 h2;subst h1 h2;rfl
 ·injection h with h;injection h with h1 h2;subst h1 h2;rfl
 ·cases h
theorem R4 {v:DV T} {k:List GL} {q:Bool} (h:L3 v=some (k,q)) {nx:Nat} (hv:v.ok H nx):Df H nx k:=by
 unfold L3 at h
 split at h
 ·injection h with h;injection h with h1 h2;subst h1 h2;intro l hl;cases hl
 ·injection h with h;injection h with h1 h2;subst h1 h2
  simp only [DV.ok]at hv
  exact hv.1
 ·cases h
theorem db (hw:Av H st) (hk:Df H st.nx key) {c a b:Operand} {p:Bool} (hp:st.arg key c=some (.c (.k .bool p))):
 Yl (cY key (O8 st c) p (st.ev a) (st.ev b)) (fun v=>AF key=true→v.ok H st.nx∧(Oj p (st.toSt.ev a) (st.toSt.ev b)).1∧(Oj p (st.toSt.ev a) (st.toSt.ev b)).2=v.toV):=by
 unfold cY
 split
 ·rename_i ka q kb r h1 h2
  split
  ·rename_i s1 s2
   refine Yl.ret fun hc=>⟨by simp only [DV.ok,DC.ok],?_⟩
   unfold Oj
   rw [st.ev_toSt,st.ev_toSt,M7 h1,M7 h2]
   refine⟨⟨fun e=>Ik s1 (R4 h1 (Ad.ev_ok hw a)) (R3 hw hk hp true) (M6 hc e),fun e=>Ik s2 (R4 h2 (Ad.ev_ok hw b)) (R3 hw hk hp false) (M6 hc e)⟩,?_⟩
   rfl
  ·exact Yl.no
 ·exact Yl.no
theorem Fv {op:BinOp} {b:Bool} {v:DC T} (h:VQ op b=some v) {s:Prop} (hs:s):(GV op b s).1∧(GV op b s).2= .c v.toC∧v.ok:=by
 unfold VQ at h
 split at h
 ·injection h with h;subst h;exact⟨hs,rfl,by simp only [DC.ok]⟩
 ·injection h with h;subst h;exact⟨hs,rfl,by simp only [DC.ok]⟩
 ·cases h
theorem Y0 {lit:Bool} {p:Prop} [Decidable p] {v:DV T} (hl:lit=true→p):Yl (nd lit key p v) (fun r=>AF key=true→p∧r=v):=by
 unfold nd
 split
 ·exact Yl.ret (by grind)
 ·exact Yl.opt fun u hu=>Yl.ret fun hc=>by
   have:=BP (K1 hu hc)
   grind
theorem dc {op:BinOp} {nz nn:Bool} {k:IntKind} {a b:Int} (h1:nz=true→b ≠ 0) (h2:nn=true→0≤b):Yl (da (T:=T) op key nz nn k a b) (fun v=>AF key=true→(EJ op k a b).1∧v= .c (O9 op k a b)):=by
 unfold da
 split
 ·exact Y0 h1
 ·exact Y0 h1
 ·exact Y0 h2
 ·exact Y0 h2
 ·refine Yl.ret fun hc=>⟨?_,rfl⟩
  cases op<;>first | trivial | simp_all
def ju (nz nn:Bool) (y:DV T):Prop:= ∀ (k:IntKind) (b:Int),y= .c (.k (.int k) b)→(nz=true→b ≠ 0)∧(nn=true→0≤b)
theorem gE {op:BinOp} {t:TypeId} {kc nz nn:Bool} {x y:DV T} (hlit:ju nz nn y):
 Yl (kz P op t key kc nz nn x y) (fun v=>AF key=true→v.ok H st.nx∧(HC P op t kc x.toV y.toV).1∧(HC P op t kc x.toV y.toV).2=v.toV):=by
 unfold kz
 split
 ·rename_i k a k' b
  refine Yl.mIf fun hb=>?_
  have hb':=OJ hb
  have key2:(EJ op k a b).1→(DV.c (O9 (T:=T) op k a b)).ok H st.nx∧(HC P op t kc (DV.c (T:=T) (.k (.int k) a)).toV (DV.c (T:=T) (.k (.int k') b)).toV).1∧(HC P op t kc (DV.c (T:=T) (.k (.int k) a)).toV (DV.c (T:=T) (.k (.int k') b)).toV).2=(DV.c (O9 (T:=T) op k a b)).toV :=by
   intro hi
   obtain⟨q1,q2⟩:=cZ (T:=T) op k a b
   simp_all [DV.ok,DV.toV,DC.toC,AQ,HC,NE]
  obtain⟨l1,l2⟩:=hlit k' b rfl
  exact(dc l1 l2).mono (by grind)
 ·rename_i a b
  unfold jr
  split
  ·refine Yl.opt fun s hs=>Yl.ret fun hc=>?_
   have:=K1 hs hc
   simp only [DV.ok,DC.ok,DV.toV,DC.toC,AQ,HC,NE,Fe,true_and]
   exact⟨mV this,by rw [mW this]⟩
  ·rename_i hne
   split
   ·rename_i v hv
    refine Yl.ret fun hc=>?_
    unfold m8 at hv
    split at hv<;>first
     | (injection hv with hv;subst hv;simp only [DV.ok,DC.ok,DV.toV,DC.toC,AQ,HC,NE,Fe,and_self])
     | grind
   ·exact Yl.no
 ·rename_i a b
  refine Yl.mIf fun hb=>?_
  unfold jt
  split
  ·exact Yl.ret fun _=>⟨by simp only [DV.ok,DC.ok],hb,rfl⟩
  ·exact Yl.ret fun _=>⟨by simp only [DV.ok,DC.ok],hb,rfl⟩
  ·exact Yl.no
 ·refine Yl.mIf fun hb=>?_
  split
  ·rename_i v hv
   refine Yl.ret fun _=>?_
   simp only [Bool.and_eq_true]at hb
   obtain⟨a,b,c⟩:=Fv (s:=kc=true∧Fl P t=true) hv hb
   exact⟨by grind [DV.ok],a,by simp only [DV.toV];exact b⟩
  ·exact Yl.no
 ·refine Yl.mIf fun hb=>?_
  split
  ·rename_i v hv
   refine Yl.ret fun _=>?_
   obtain⟨a,b,c⟩:=Fv (s:=Fl P t=true) hv hb
   exact⟨by grind [DV.ok],a,by simp only [DV.toV];exact b⟩
  ·exact Yl.no
 ·refine Yl.mIf fun hb=>?_
  split
  ·rename_i v hv
   refine Yl.ret fun _=>?_
   obtain⟨a,b,c⟩:=Fv (s:=FF P t=true) hv hb
   exact⟨by grind [DV.ok],a,by simp only [DV.toV];exact b⟩
  ·exact Yl.no
 ·refine Yl.mIf fun hb=>?_
  split
  ·rename_i v hv
   refine Yl.ret fun _=>?_
   obtain⟨a,b,c⟩:=Fv (s:=FF P t=true) hv hb
   exact⟨by grind [DV.ok],a,by simp only [DV.toV];exact b⟩
  ·exact Yl.no
 ·refine Yl.mIf fun hb=>?_
  split
  ·rename_i v hv
   refine Yl.ret fun _=>?_
   obtain⟨a,b,c⟩:=Fv (s:=FF P t=true) hv hb
   exact⟨by grind [DV.ok],a,by simp only [DV.toV];exact b⟩
  ·exact Yl.no
 ·refine Yl.mIf fun hb=>?_
  split
  ·rename_i v hv
   refine Yl.ret fun _=>?_
   obtain⟨a,b,c⟩:=Fv (s:=FF P t=true) hv hb
   exact⟨by grind [DV.ok],a,by simp only [DV.toV];exact b⟩
  ·exact Yl.no
 ·rename_i cs ds
  split
  ·rename_i x y h1 h2
   refine Yl.mIf fun hb=>?_
   have e:T.beq t x y=Co (Al cs) (Al ds):=by rw [T.beqok,(EQ h1).2 rfl,(EQ h2).2 rfl]
   split
   ·refine Yl.ret fun _=>⟨by simp only [DV.ok,DC.ok],?_⟩
    simp_all [DV.toV,DC.toC,AQ,HC,QJ]
   ·refine Yl.ret fun _=>⟨by simp only [DV.ok,DC.ok],?_⟩
    simp_all [DV.toV,DC.toC,AQ,HC,QJ]
   ·exact Yl.no
  ·exact Yl.no
 ·exact Yl.no
end
end Go.PL
namespace Go.PL
open Go Go.RowKit
variable {T:AN}
def o5 (op:UnOp):DV T→M (DV T)
 | .c (.k (.int k) n)=>match op with
   | .neg => .ret (.c (.k (.int k) (k.wrap (0 - (show Int from n)))))
   | .xor => .ret (.c (.k (.int k) (SV k (if k.signed then -1 else k.max) n)))
   | _=> .no
 | .c (.k .bool b)=>match op with
   | .not => .ret (.c (.k .bool !(show Bool from b)))
   | _=> .no
 | _=> .no
def de (P:Program) (src dst:TypeId):DV T→M (DV T)
 | .c (.k (.int _) n)=>match Ru P dst with
   | some k=>mIf (ZT P src) (.ret (.c (.k (.int k) (k.wrap n))))
   | none=> .no
 | .c (.k .str s)=>mIf (Cj P src&&Cj P dst) (.ret (.c (.k .str s)))
 | _=> .no
def gG (st:Ad T) (key:List GL):Option Operand→Option (Option Int)
 | none=>some none
 | some x=>match st.arg key x with
   | some (.c (.k (.int _) n))=>some (some n)
   | _=>none
def jv (key:List GL) (s:List UInt8) (lo hi:Option Int):M (DV T):=
 .opt (gk key (am s (lo.getD 0) (hi.getD s.length))) fun r=> .ret (.c (.k .str r))
def jw (key:List GL) (E:Nat) (l:List (T.den E)) (lo hi:Option Int):M (DV T):=
 .opt (gk key (Xx l (lo.getD 0) (hi.getD l.length))) fun r=> .ret (.c (.k (.lst E) r))
def kA (P:Program) (t:TypeId) (key:List GL) (x:DV T) (lo hi:Option Int):M (DV T):=
 match x with
 | .c (.k .str s)=>mIf (Cj P t) (jv key s lo hi)
 | .c (.k (.lst E) l)=>match BZ P t with
   | some (_,n)=>mIf (Nat.beq n (T.sz E)) (jw key E l lo hi)
   | none=> .no
 | _=> .no
def dg (P:Program) (s:TypeId) (f:Nat) (x:DV T):M (DV T):=
 match ZR P s f with
 | some (o,_,n)=>mIf (Nat.blt 0 n)<|match x with
   | .c (.c (.ptr id off))=> .ret (.c (.c (.ptr id (off+o))))
   | .c (.ip E l i x off)=> .ret (.c (.ip E l i x (off+o)))
   | .c (.rp id N i off)=> .ret (.c (.rp id N i (off+o)))
   | .c (.ap id base m E i off)=> .ret (.c (.ap id base m E i (off+o)))
   | _=> .no
 | none=> .no
def XE (P:Program) (t:TypeId) (f:Nat) (x:DV T):M (DV T):=
 match x with
 | .agg cs=>match ZR P t f with
   | some (o,ag,n)=>mIf (Ds ag o n cs.length) (.ret (B1 ag o n cs))
   | none=> .no
 | _=> .no
def VR (key:List GL) (E:Nat) (l:List (T.den E)) (i:Int) (f:T.den E→DV T):M (DV T):= .opt (gk key (Gk l i)) fun x=> .ret (f x)
def kC (P:Program) (t:TypeId) (key:List GL) (st:Ad T) (x y:DV T):M (DV T):=
 match y with
 | .c (.k (.int _) i)=>match x with
   | .c (.k (.lst E) l)=>match BZ P t with
     | some (_,n)=>mIf (Nat.beq n (T.sz E)) (VR key E l i fun x=> .c (.ip E l i x 0))
     | none=> .no
   | .c (.c (.osl id))=>match BZ P t,YZ st id with
     | some (_,n),some ⟨E,l⟩=>VR key E l i fun _=> .c (.rp id n i 0)
     | _,_=> .no
   | .c (.c (.ptr id off))=>match CL P t,FY st id with
     | some (k,e,n),some cs=>match GJ e k (cs.drop off)with
       | some l=>mIf (Nat.beq n (T.sz e)&&Nat.ble off cs.length) (VR key e l i fun _=> .c (.ap id off k e i 0))
       | none=> .no
     | _,_=> .no
   | _=> .no
 | _=> .no
def jx (key:List GL) (s:List UInt8) (i:Int):M (DV T):= .opt (gk key (al s i)) fun r=> .ret (.c (.k (.int .u8) r))
def dj (P:Program) (t:TypeId) (key:List GL) (x y:DV T):M (DV T):=
 match y with
 | .c (.k (.int _) i)=>match x with
   | .c (.k .str s)=>mIf (Cj P t) (jx key s i)
   | .agg cs=>match CL P t with
     | some (k,e,n)=>match Fd P e,GJ e k cs with
       | some (ag,_),some l=>mIf (Nat.beq n (T.sz e)&&(Nat.blt 0 n&&Nat.beq cs.length (k*n))) (VR key e l i fun x=>B1 ag 0 n (TL e x))
       | _,_=> .no
     | none=> .no
   | _=> .no
 | _=> .no
def kD (i:Nat):DV T→M (DV T)
 | .tup vs=>mIf (Nat.blt i vs.length) (.ret (vs.getD i .u))
 | _=> .no
def dk:DV T→M (DV T)
 | .c (.c (.ptr id off))=> .ret (.c (.c (.ptr id off)))
 | .c (.c (.fn f))=> .ret (.c (.c (.fn f)))
 | .c (.ip E l i x off)=> .ret (.c (.ip E l i x off))
 | .c (.rp id N i off)=> .ret (.c (.rp id N i off))
 | .c (.ap id b m E i off)=> .ret (.c (.ap id b m E i off))
 | .c (.clo b f cs)=> .ret (.c (.clo b f cs))
 | _=> .no
def kE (P:Program) (t:TypeId) (st:Ad T) (x:DV T):M (DV T):=
 match x with
 | .c (.k .str s)=>mIf (Cj P t) (.ret (.c (.k (.int .i64) ((List.length (α:=UInt8) s:Nat):Int))))
 | .c (.k (.lst E) l)=>mIf (BV P t) (.ret (.c (.k (.int .i64) ((List.length (α:=T.den E) l:Nat):Int))))
 | .c (.c (.osl id))=>match YZ st id with
   | some ⟨_,l⟩=>mIf (BV P t) (.ret (.c (.k (.int .i64) ((l.length:Nat):Int))))
   | none=> .no
 | .c (.bs _ _ _ n)=>mIf (BV P t) (.ret (.c (.k (.int .i64) ((n.toNat:Nat):Int))))
 | .agg _=>match CL P t with
   | some (k,_,_)=> .ret (.c (.k (.int .i64) ((k:Nat):Int)))
   | none=> .no
 | .c (.c (.ptr _ _))=>match CL P t with
   | some (k,_,_)=> .ret (.c (.k (.int .i64) ((k:Nat):Int)))
   | none=> .no
 | _=> .no
def Fj (st:Ad T) (key:List GL):List Operand→Option (List (DV T))
 | []=>some []
 | x::xs=>match st.arg key x,Fj st key xs with
   | some v,some vs=>some (v::vs)
   | _,_=>none
abbrev o6 (x:Int) (ys:List Int):Int:=ys.foldl (fun a y=>if y<a then y else a) x
abbrev o7 (x:Int) (ys:List Int):Int:=ys.foldl (fun a y=>if a<y then y else a) x
def jy (k:IntKind) (x:Int) (ys:List Int):DV T:= .c (.k (.int k) (o6 x ys))
def jz (k:IntKind) (x:Int) (ys:List Int):DV T:= .c (.k (.int k) (o7 x ys))
def Pa:List (DV T)→Option (IntKind×Int×List Int)
 | [.c (.k (.int k) x)]=>some (k,x,[])
 | .c (.k (.int k) x)::vs=>match Pa vs with
   | some (_,y,ys)=>some (k,x,y::ys)
   | none=>none
 | _=>none
def XF:Value→Option (DC T)
 | .int k n=>some (.k (.int k) n)
 | .bool b=>some (.k .bool b)
 | .string s=>some (.k .str s.data.toList)
 | v=>match Ot v with
   | some c=>some (.c c)
   | none=>none
def K3:List Value→Option (List (DC T))
 | []=>some []
 | v::vs=>match XF v,K3 vs with
   | some c,some cs=>some (c::cs)
   | _,_=>none
def Pb (P:Program) (t:TypeId):Option (List (DC T)):=
 match P.info? t with
 | some i=>match i.zero with
   | some z=>K3 z.cells.toList
   | none=>none
 | none=>none
def DV.cells:DV T→Option (List (DC T))
 | .c x=>some [x]
 | .agg cs=>some cs
 | _=>none
def M8 (place:Nat→Option (Nat×Nat)) (cells:List (DC T)):List (Nat×DV T)→Option (List (DC T))
 | []=>some cells
 | (i,v)::rest=>match place i,v.cells with
   | some (off,size),some cs=>match Nat.beq cs.length size&&Nat.ble (off+size) cells.length with
     | true=>M8 place (cells.take off++(cs++cells.drop (off+size))) rest
     | false=>none
   | _,_=>none
def Eu (st:Ad T) (key:List GL):List (Nat×Operand)→Option (List (Nat×DV T))
 | []=>some []
 | (i,x)::r=>match st.arg key x,Eu st key r with
   | some v,some vs=>some ((i,v)::vs)
   | _,_=>none
def R5:List (DV T)→Option (List (DC T))
 | []=>some []
 | .c x::vs=>match R5 vs with
   | some cs=>some (x::cs)
   | none=>none
 | _=>none
def XG (P:Program) (t:TypeId) (key:List GL) (st:Ad T) (ps:List (Nat×Operand)):M (DV T):=
 match Pb P t,Eu st key ps with
 | some z,some vs=>match M8 (cf P t) z vs with
   | some cs=>mIf (Rx P t) (.ret (.agg cs))
   | none=> .no
 | _,_=> .no
def G6 (P:Program) (key:List GL) (st:Ad T):Op→M (DV T)
 | .move x=> .sm (st.arg key x)
 | .assign x=> .sm (st.arg key x)
 | .pick c a b=>match st.arg key c with
   | some (.c (.k .bool p))=>cY key (O8 st c) p (st.ev a) (st.ev b)
   | _=> .no
 | .load t x=>match st.arg key x with
   | some v=>VO P t key st v
   | none=> .no
 | .binOp op t x y _=>match st.arg key x,st.arg key y with
   | some u,some v=>kz P op t key (AL x||AL y) (c8 y) (c9 y) u v
   | _,_=> .no
 | .unOp op _ x=>match st.arg key x with
   | some v=>o5 op v
   | none=> .no
 | .convert src dst x=>match st.arg key x with
   | some v=>de P src dst v
   | none=> .no
 | .slice t x lo hi none=>match st.arg key x,gG st key lo,gG st key hi with
   | some v,some l,some h=>kA P t key v l h
   | _,_,_=> .no
 | .fieldAddr s x f=>match st.arg key x with
   | some v=>dg P s f v
   | none=> .no
 | .field t x f=>match st.arg key x with
   | some v=>XE P t f v
   | none=> .no
 | .indexAddr t x i=>match st.arg key x,st.arg key i with
   | some u,some v=>kC P t key st u v
   | _,_=> .no
 | .index t x i=>match st.arg key x,st.arg key i with
   | some u,some v=>dj P t key u v
   | _,_=> .no
 | .extract x i=>match st.arg key x with
   | some v=>kD i v
   | none=> .no
 | .nilCheck x=>match st.arg key x with
   | some v=>dk v
   | none=> .no
 | .build t ps=>XG P t key st ps.toList
 | .makeFunc (.func f) ⟨[]⟩ caps=>match Fj st key caps.toList with
   | some vs=>match R5 vs with
     | some cs=> .ret (.c (.clo false f cs))
     | none=> .no
   | none=> .no
 | .makeFunc (.func f) ⟨x::xs⟩ ⟨[]⟩=>match Fj st key (x::xs)with
   | some vs=>match R5 vs with
     | some cs=> .ret (.c (.clo true f cs))
     | none=> .no
   | none=> .no
 | .call c=>match c.callee with
   | .builtin b=>match b,c.args.toList,c.argTypes.toList with
     | .len,[x],[t]=>match st.arg key x with
       | some v=>kE P t st v
       | none=> .no
     | .min,xs,_=>match Fj st key xs with
       | some vs=>match Pa vs with
         | some (k,x,ys)=> .ret (jy k x ys)
         | none=> .no
       | none=> .no
     | .max,xs,_=>match Fj st key xs with
       | some vs=>match Pa vs with
         | some (k,x,ys)=> .ret (jz k x ys)
         | none=> .no
       | none=> .no
     | _,_,_=> .no
   | _=> .no
 | _=> .no
end Go.PL
namespace Go.PL
open Go Go.RowKit
variable {T:AN}
section
variable {H:Am T} {P:Program} {st:Ad T} {key:List GL}
theorem kF {op:UnOp} {x:DV T} {g:Prop} {nx:Nat}:Yl (o5 op x) (fun v=>g→v.ok H nx∧(fM op x.toV).1∧(fM op x.toV).2=v.toV):=by
 unfold o5
 split
 ·split
  ·exact Yl.ret fun _=>⟨by simp only [DV.ok,DC.ok],trivial,rfl⟩
  ·exact Yl.ret fun _=>⟨by simp only [DV.ok,DC.ok],trivial,rfl⟩
  ·exact Yl.no
 ·split
  ·exact Yl.ret fun _=>⟨by simp only [DV.ok,DC.ok],trivial,rfl⟩
  ·exact Yl.no
 ·exact Yl.no
theorem dn {s d:TypeId} {x:DV T} {g:Prop} {nx:Nat} {z:St}:Yl (de P s d x) (fun v=>g→v.ok H nx∧(Gr P s d z x.toV).1∧(Gr P s d z x.toV).2=v.toV):=by
 unfold de
 split
 ·split
  ·rename_i k hk
   refine Yl.mIf fun hb=>Yl.ret fun _=>⟨by simp only [DV.ok,DC.ok],?_⟩
   simp_all [DV.toV,DC.toC,AQ,Gr]
  ·exact Yl.no
 ·refine Yl.mIf fun hb=>Yl.ret fun _=>⟨by simp only [DV.ok,DC.ok],?_⟩
  simp only [Bool.and_eq_true]at hb
  exact⟨hb,rfl⟩
 ·exact Yl.no
theorem L4 (hw:Av H st) (hk:Df H st.nx key) {x:Option Operand} {o:Option Int} (h:gG st key x=some o) (hc:AF key=true):
 (B2 st.toSt (AF key) x).1∧((o=none∧(B2 st.toSt (AF key) x).2=none)∨ ∃ k n,o=some n∧(B2 st.toSt (AF key) x).2=some (.c (.int k n))):=by
 unfold gG at h
 split at h
 ·injection h with h;subst h;exact⟨trivial, .inl ⟨rfl,rfl⟩⟩
 ·split at h
  ·rename_i y k n hy
   injection h with h;subst h
   obtain⟨_,a,b⟩:=Ad.arg_spec hw hk hy hc
   exact⟨a, .inr ⟨k,n,rfl,by simp only [B2,b];rfl⟩⟩
  ·cases h
theorem Y1 {len:Nat} {lo hi:Option Int} {a b:Option V} (ha:(lo=none∧a=none)∨ ∃ k n,lo=some n∧a=some (.c (.int k n))) (hb:(hi=none∧b=none)∨ ∃ k n,hi=some n∧b=some (.c (.int k n))):
 QG len a b=some (lo.getD 0,hi.getD len):=by
 rcases ha with ⟨rfl,rfl⟩ | ⟨k,n,rfl,rfl⟩<;>rcases hb with ⟨rfl,rfl⟩ | ⟨k',n',rfl,rfl⟩<;>rfl
theorem dq {s:List UInt8} {lo hi:Option Int}:Yl (jv (T:=T) key s lo hi) (fun v=>AF key=true→ ∃ r,am s (lo.getD 0) (hi.getD s.length)=some r∧v= .c (.k .str r)):=
 Yl.opt fun r hr=>Yl.ret fun hc=>⟨r,K1 hr hc,rfl⟩
theorem dt {E:Nat} {l:List (T.den E)} {lo hi:Option Int}:Yl (jw key E l lo hi) (fun v=>AF key=true→ ∃ r,Xx l (lo.getD 0) (hi.getD l.length)=some r∧v= .c (.k (.lst E) r)):=
 Yl.opt fun r hr=>Yl.ret fun hc=>⟨r,K1 hr hc,rfl⟩
theorem gH {t:TypeId} {x:DV T} {lo hi:Option Int} {a b:Option V} (ha:AF key=true→(lo=none∧a=none)∨ ∃ k n,lo=some n∧a=some (.c (.int k n))) (hb:AF key=true→(hi=none∧b=none)∨ ∃ k n,hi=some n∧b=some (.c (.int k n))) {nx:Nat}:
 Yl (kA P t key x lo hi) (fun v=>AF key=true→v.ok H nx∧(Ei P t x.toV a b).1∧(Ei P t x.toV a b).2=v.toV):=by
 unfold kA
 split
 ·rename_i s
  refine Yl.mIf fun hs=>dq.mono fun v hv hc=>?_
  obtain⟨r,h1,rfl⟩:=hv hc
  have hB:=Y1 (len:=List.length (α:=UInt8) s) (ha hc) (hb hc)
  refine⟨by simp only [DV.ok,DC.ok],?_⟩
  simp only [DV.toV,DC.toC,AQ,Ei]
  grind [kl,km]
 ·rename_i E l
  split
  ·rename_i e n hsel
   refine Yl.mIf fun hs=>dt.mono fun v hv hc=>?_
   obtain⟨r,h1,rfl⟩:=hv hc
   have hn:n=T.sz E:=(by simp_all)
   subst hn
   have hB:=Y1 (len:=List.length (α:=T.den E) l) (ha hc) (hb hc)
   refine⟨by simp only [DV.ok,DC.ok],?_⟩
   simp only [DV.toV,DC.toC,AQ,Ei,hsel]
   grind [cR,flat_len',AA,oX]
  ·exact Yl.no
 ·exact Yl.no
theorem du {s:TypeId} {f:Nat} {x:DV T} {g:Prop} {nx:Nat} (hx:g→x.ok H nx):Yl (dg P s f x) (fun v=>g→v.ok H nx∧(Bh P s f x.toV).1∧(Bh P s f x.toV).2=v.toV):=by
 unfold dg
 split
 ·rename_i o ag n hf
  refine Yl.mIf fun hb=>?_
  have hb':0<n:=by simp_all
  split
  ·refine Yl.ret fun _=>⟨by simp only [DV.ok,DC.ok],?_⟩
   simp_all [DV.toV,DC.toC,Bh]
  ·simp_all [Yl.ret,DV.ok,DC.ok,DV.toV,DC.toC,Bh,Nat.add_assoc]
  ·refine Yl.ret fun hg=>⟨by simp only [DV.ok,DC.ok],?_⟩
   simp_all [DV.toV,DC.toC,Bh,Nat.add_assoc]
  ·refine Yl.ret fun hg=>⟨by simp only [DV.ok,DC.ok],?_⟩
   simp_all [DV.toV,DC.toC,Bh,Nat.add_assoc]
  ·exact Yl.no
 ·exact Yl.no
theorem aD {t:TypeId} {f:Nat} {x:DV T} {g:Prop} {nx:Nat} (hx:g→x.ok H nx):Yl (XE P t f x) (fun v=>g→v.ok H nx∧(FH P t f x.toV).1∧(FH P t f x.toV).2=v.toV):=by
 unfold XE
 split
 ·split
  ·rename_i cs o ag n hf
   refine Yl.mIf fun hb=>Yl.ret fun hg=>⟨(by grind [ER,DV.ok]),?_⟩
   obtain⟨h1,h2⟩:=BH hb
   simp_all [DV.toV,FH,Es,Ax]
  ·exact Yl.no
 ·exact Yl.no
theorem K4 {E:Nat} {l:List (T.den E)} {i:Int} {f:T.den E→DV T}:Yl (VR key E l i f) (fun v=>AF key=true→ ∃ x,Gk l i=some x∧v=f x):=
 Yl.opt fun r hr=>Yl.ret fun hc=>⟨r,K1 hr hc,rfl⟩
theorem gI {t:TypeId} {x y:DV T} {nx:Nat}:Yl (kC P t key st x y) (fun v=>AF key=true→v.ok H nx∧(Bu P t st.toSt x.toV y.toV).1∧(Bu P t st.toSt x.toV y.toV).2=v.toV):=by
 unfold kC
 split
 ·rename_i k i
  split
  ·rename_i E l
   split
   ·rename_i e n hs
    refine Yl.mIf fun hn=>K4.mono fun v hv hc=>?_
    have hn:n=T.sz E:=(by simp_all)
    subst hn
    obtain⟨x,h1,rfl⟩:=hv hc
    refine⟨by grind [DV.ok,DC.ok],?_⟩
    simp only [DV.toV,DC.toC,AQ,Bu,hs,Nat.add_zero]
    exact⟨Fh h1,trivial⟩
   ·exact Yl.no
  ·rename_i id
   split
   ·rename_i e n E l hs hb
    refine K4.mono fun v hv hc=>?_
    obtain⟨x,h1,rfl⟩:=hv hc
    refine⟨by simp only [DV.ok,DC.ok],?_⟩
    obtain⟨ee,e1,e2⟩:=O5 hb
    simp only [DV.toV,DC.toC,AQ,Bu,hs,e1,e2,Nat.add_zero]
    exact⟨Fh h1,trivial⟩
   ·exact Yl.no
  ·rename_i id off
   split
   ·rename_i m e n cs hs hb
    split
    ·rename_i l hl
     refine Yl.mIf fun hn=>K4.mono fun v hv hc=>?_
     simp only [Bool.and_eq_true,Nat.beq_eq,Nat.ble_eq]at hn
     obtain⟨hn,_⟩:=hn
     subst hn
     obtain⟨x,h1,rfl⟩:=hv hc
     refine⟨by simp only [DV.ok,DC.ok],?_⟩
     simp only [DV.toV,DC.toC,AQ,Bu,hs,Nat.add_zero]
     have:=Fh h1
     rw [(CU hl).1]at this
     grind
    ·exact Yl.no
   ·exact Yl.no
  ·exact Yl.no
 ·exact Yl.no
theorem dv {s:List UInt8} {i:Int}:Yl (jx (T:=T) key s i) (fun v=>AF key=true→ ∃ r,al s i=some r∧v= .c (.k (.int .u8) r)):=
 Yl.opt fun r hr=>Yl.ret fun hc=>⟨r,K1 hr hc,rfl⟩
theorem dw {t:TypeId} {x y:DV T} {nx:Nat}:Yl (dj P t key x y) (fun v=>AF key=true→v.ok H nx∧(E9 P t x.toV y.toV).1∧(E9 P t x.toV y.toV).2=v.toV):=by
 unfold dj
 split
 ·rename_i k i
  split
  ·rename_i s
   refine Yl.mIf fun hs=>dv.mono fun v hv hc=>?_
   obtain⟨r,h1,rfl⟩:=hv hc
   grind [DV.ok,DC.ok,DV.toV,DC.toC,AQ,E9,kj,kk]
  ·rename_i cs
   split
   ·rename_i m e n hs
    split
    ·rename_i ag n' l ht hl
     refine Yl.mIf fun hn=>K4.mono fun v hv hc=>?_
     simp only [Bool.and_eq_true,Nat.beq_eq,Nat.blt_eq]at hn
     obtain⟨hn,h0,hlen⟩:=hn
     subst hn
     obtain⟨x,h1,rfl⟩:=hv hc
     obtain⟨hl1,r,hl2⟩:=CU hl
     have:=Xz (cs:=Al cs) (pre:=[]) (post:=r) (base:=0) (e:=T.enc e) (N:=T.sz e) (o:=0) (n:=T.sz e) (ag:=ag) (v:=(B1 (T:=T) ag 0 (T.sz e) (TL e x)).toV) (off:=i.toNat*T.sz e)
      (by grind) rfl h1 (fun y=>AA e y) (by omega) (by omega) (.inr h0) (by rw [Es,DY])
     grind [ER,HE,Fh,DV.toV,DC.toC,AQ,E9]
    ·exact Yl.no
   ·exact Yl.no
  ·exact Yl.no
 ·exact Yl.no
theorem R6: ∀ (vs:List (DV T)) (i:Nat),(AH vs).getD i .undef =(vs.getD i .u).toV
 | [],_=>by simp [AH,DV.toV]
 | v::vs,0=>by simp [AH]
 | v::vs,i+1=>by simpa [AH] using R6 vs i
theorem EU (vs:List (DV T)):(AH vs).length =vs.length:=by simp [Ih]
theorem gJ {i:Nat} {x:DV T} {g:Prop} {nx:Nat} (hx:g→x.ok H nx):Yl (kD i x) (fun v=>g→v.ok H nx∧(Xc i x.toV).1∧(Xc i x.toV).2=v.toV):=by
 unfold kD
 split
 ·rename_i vs
  refine Yl.mIf fun hb=>Yl.ret fun hg=>⟨?_,?_⟩
  ·grind [DV.ok,Ii]
  ·simp only [DV.toV,Xc,R6,EU]
   simp_all
 ·exact Yl.no
theorem dx {x:DV T} {g:Prop} {nx:Nat} (hx:g→x.ok H nx):Yl (dk x) (fun v=>g→v.ok H nx∧(QH x.toV).1∧(QH x.toV).2=v.toV):=by
 unfold dk
 split
 ·exact Yl.ret fun hg=>⟨hx hg,trivial,rfl⟩
 ·exact Yl.ret fun hg=>⟨hx hg,trivial,rfl⟩
 ·grind [Yl.ret,DV.toV,DC.toC,QH]
 ·grind [Yl.ret,DV.toV,DC.toC,QH]
 ·grind [Yl.ret,DV.toV,DC.toC,QH]
 ·rename_i b f cs
  refine Yl.ret fun hg=>⟨hx hg,?_⟩
  cases b<;>simp only [DV.toV,DC.toC,QH]<;>exact(by grind)
 ·exact Yl.no
theorem gK {t:TypeId} {x:DV T} {nx:Nat} {g:Prop}:Yl (kE P t st x) (fun v=>g→v.ok H nx∧(Jm P t st.toSt x.toV).1∧(Jm P t st.toSt x.toV).2=v.toV):=by
 unfold kE
 split
 ·exact Yl.mIf fun hb=>Yl.ret fun _=>⟨by simp only [DV.ok,DC.ok],hb,rfl⟩
 ·exact Yl.mIf fun hb=>Yl.ret fun _=>⟨by simp only [DV.ok,DC.ok],hb,rfl⟩
 ·split
  ·rename_i id E l hr
   refine Yl.mIf fun hb=>Yl.ret fun _=>⟨by simp only [DV.ok,DC.ok],?_⟩
   obtain⟨ee,e1,e2⟩:=O5 hr
   simp_all [DV.toV,DC.toC,AQ,Jm]
  ·exact Yl.no
 ·exact Yl.mIf fun hb=>Yl.ret fun _=>⟨by simp only [DV.ok,DC.ok],hb,rfl⟩
 ·split
  ·rename_i k e n ha
   refine Yl.ret fun _=>⟨by simp only [DV.ok,DC.ok],?_⟩
   simp_all [DV.toV,DC.toC,AQ,Jm]
  ·exact Yl.no
 ·split
  ·rename_i k e n ha
   refine Yl.ret fun _=>⟨by simp only [DV.ok,DC.ok],?_⟩
   simp_all [DV.toV,DC.toC,AQ,Jm]
  ·exact Yl.no
 ·exact Yl.no
theorem Cg (hw:Av H st) (hk:Df H st.nx key) (hc:AF key=true): ∀ {xs:List Operand} {vs:List (DV T)},Fj st key xs=some vs→
 BR H st.nx vs∧(st.toSt.args (AF key) xs).1∧(st.toSt.args (AF key) xs).2=AH vs
 | [],vs,h=>by grind [Fj,BR,St.args,AH]
 | x::xs,vs,h=>by
   unfold Fj at h
   split at h
   ·rename_i v vs' h1 h2
    injection h with h;subst h
    obtain⟨a,b,c⟩:=Ad.arg_spec hw hk h1 hc
    obtain⟨a',b',c'⟩:=Cg hw hk hc h2
    simp_all [BR,St.args,AH]
   ·cases h
theorem JE: ∀ {vs:List (DV T)} {r:IntKind×Int×List Int},Pa vs=some r→FJ (AH vs)=some r
 | [],_,h=>by simp [Pa]at h
 | [v],r,h=>by
   unfold Pa at h
   split at h
   ·rename_i k x he
    injection he with he;subst he
    injection h with h;subst h
    rfl
   all_goals grind
 | v::v'::vs,r,h=>by
   unfold Pa at h
   split at h
   ·grind
   ·rename_i k x vs' _ he
    injection he with h1 h2
    subst h1 h2
    split at h
    ·rename_i k' y ys h3
     injection h with h;subst h
     have:=JE h3
     simp_all [AH,DV.toV,DC.toC,AQ,FJ]
    ·cases h
   ·cases h
theorem VS {v:Value} {c:DC T} (h:XF v=some c):Ot v=some c.toC∧c.ok:=by
 unfold XF at h
 split at h
 ·injection h with h;subst h;exact⟨rfl,by simp only [DC.ok]⟩
 ·injection h with h;subst h;exact⟨rfl,by simp only [DC.ok]⟩
 ·injection h with h;subst h;exact⟨rfl,by simp only [DC.ok]⟩
 grind [DC.toC,DC.ok]
theorem K5: ∀ {vs:List Value} {cs:List (DC T)},K3 vs=some cs→Fm vs=some (Al cs)∧Bs cs
 | [],cs,h=>by grind [K3,Fm,Al,Bs]
 | v::vs,cs,h=>by
   unfold K3 at h
   split at h
   ·rename_i c cs' h1 h2
    injection h with h;subst h
    obtain⟨a,b⟩:=VS h1
    obtain⟨a',b'⟩:=K5 h2
    simp [Fm,a,a',Al,Bs,b,b']
   ·cases h
theorem Il {t:TypeId} {cs:List (DC T)} (h:Pb P t=some cs):MI P t=some (Al cs)∧Bs cs:=by
 grind [Pb,MI,K5]
theorem DV.cells_spec {v:DV T} {cs:List (DC T)} (h:v.cells=some cs):v.toV.cells=some (Al cs)∧(∀ {H:Am T} {nx:Nat},v.ok H nx→Bs cs):=by
 unfold DV.cells at h
 grind [DV.toV,V.cells,Al,Bs,DV.ok]
def VU (l:List (Nat×DV T)):List (Nat×V):=l.map fun x=>(x.1,x.2.toV)
theorem DI (hw:Av H st) (hk:Df H st.nx key) (hc:AF key=true): ∀ {ps:List (Nat×Operand)} {vs:List (Nat×DV T)},Eu st key ps=some vs→
 (∀ x∈vs,x.2.ok H st.nx)∧(st.toSt.parts (AF key) ps).1∧(st.toSt.parts (AF key) ps).2=VU vs
 | [],vs,h=>by grind [Eu,St.parts,VU]
 | (i,x)::r,vs,h=>by
   unfold Eu at h
   split at h
   ·rename_i v vs' h1 h2
    injection h with h;subst h
    obtain⟨a,b,c⟩:=Ad.arg_spec hw hk h1 hc
    obtain⟨a',b',c'⟩:=DI hw hk hc h2
    simp only [St.parts,VU,c,c',List.map_cons]
    grind
   ·cases h
theorem F4 {place:Nat→Option (Nat×Nat)}: ∀ {vs:List (Nat×DV T)} {cells cs:List (DC T)},M8 place cells vs=some cs→
 Ff place (Al cells) (VU vs)=some (Al cs)∧ ∀ {H:Am T} {nx:Nat},Bs cells→(∀ x∈vs,x.2.ok H nx)→Bs cs
 | [],cells,cs,h=>by simp [M8]at h;subst h;exact⟨rfl,fun hc _=>hc⟩
 | (i,v)::rest,cells,cs,h=>by
   unfold M8 at h
   split at h
   ·rename_i off size ds h1 h2
    split at h
    ·rename_i hb
     simp only [Bool.and_eq_true,Nat.beq_eq,Nat.ble_eq]at hb
     obtain⟨a,b⟩:=DV.cells_spec h2
     obtain⟨a',b'⟩:=F4 h
     refine⟨?_,fun hc hv=>b' (B9 (LY hc _) (B9 (b (hv (i,v) (by simp))) (LZ hc _))) (fun x hx=>hv x (by simp [hx]))⟩
     simp only [VU,List.map_cons,Ff,h1,a]
     rw [if_pos (by rw [Ax,Ax];exact hb)]
     rw [←a',BG,BG,Fu,DH,List.append_assoc]
     rfl
    ·cases h
   ·cases h
theorem JF: ∀ {vs:List (DV T)} {cs:List (DC T)},R5 vs=some cs→S5 (AH vs)=some (Al cs)∧ ∀ {H:Am T} {nx:Nat},BR H nx vs→Bs cs
 | [],cs,h=>by grind [R5,AH,S5,Al,Bs]
 | v::vs,cs,h=>by
   unfold R5 at h
   split at h
   ·cases ‹_=([]:List (DV T))›
   ·rename_i x vs' he
    injection he with h1 h2;subst h1 h2
    split at h
    ·rename_i cs' hcs
     injection h with h;subst h
     obtain⟨a,b⟩:=JF hcs
     refine⟨by simp [AH,DV.toV,S5,a,Al],fun hv=>?_⟩
     simp only [BR,DV.ok]at hv
     simp only [Bs]
     exact⟨hv.1,b hv.2⟩
    ·cases h
   ·cases h
theorem aE (hw:Av H st) (hk:Df H st.nx key) {t:TypeId} {ps:List (Nat×Operand)}:
 Yl (XG P t key st ps) (fun v=>AF key=true→v.ok H st.nx∧(Ib P st.toSt (AF key) t ps).1∧(Ib P st.toSt (AF key) t ps).2=v.toV):=by
 unfold XG
 split
 ·rename_i z vs hz hp
  split
  ·rename_i cs hf
   refine Yl.mIf fun ho=>Yl.ret fun hc=>?_
   obtain⟨a,b⟩:=Il hz
   obtain⟨p1,p2,p3⟩:=DI hw hk hc hp
   obtain⟨q1,q2⟩:=F4 hf
   refine⟨by simp only [DV.ok];exact q2 b p1,?_⟩
   simp_all [Ib,DV.toV]
  ·exact Yl.no
 ·exact Yl.no
theorem dy {y:Operand} {v:DV T} (h:st.arg key y=some v):ju (c8 y) (c9 y) v:=by
 intro k b hv
 subst hv
 have hc: ∀ (k':IntKind) (n:Int),y= .const (.int k' n)→b=n:=by
  grind [Ad.arg,Ad.ev,LX,M2]
 constructor
 ·intro h1
  unfold c8 at h1
  grind
 ·intro h1
  unfold c9 at h1
  grind
theorem G7 (hw:Av H st) (hk:Df H st.nx key) (op:Op):Yl (G6 P key st op) (Rd H P st key op):=by
 have A: ∀ {x:Operand} {v:DV T},st.arg key x=some v→AF key=true→v.ok H st.nx∧(st.toSt.arg (AF key) x).1∧(st.toSt.arg (AF key) x).2=v.toV:=(by grind [Ad.arg_spec])
 unfold G6
 split
 ·exact Yl.sm fun v hv hc=>A hv hc
 ·exact Yl.sm fun v hv hc=>A hv hc
 ·rename_i c a b
  split
  ·rename_i p hp
   refine(db hw hk hp).mono fun v hv hc=>?_
   grind [DV.toV,DC.toC,AQ,CA,rd,bnd]
  ·exact Yl.no
 ·rename_i t x
  split
  ·rename_i v hx
   refine(O7 hw (by grind)).mono fun r hr hc=>?_
   grind [CA,rd,bnd]
  ·exact Yl.no
 ·rename_i op t x y ty
  split
  ·rename_i u v hx hy
   refine(gE (H:=H) (st:=st) (dy hy)).mono fun r hr hc=>?_
   obtain⟨q0,q1,q2⟩:=hr hc
   obtain⟨_,k1,k2⟩:=A hx hc
   obtain⟨_,k3,k4⟩:=A hy hc
   refine⟨q0,?_⟩
   have e:CA P st.toSt (AF key) (.binOp op t x y ty)=((st.toSt.arg (AF key) x).1∧(st.toSt.arg (AF key) y).1∧(HC P op t (AL x||AL y) (st.toSt.arg (AF key) x).2 (st.toSt.arg (AF key) y).2).1,(HC P op t (AL x||AL y) (st.toSt.arg (AF key) x).2 (st.toSt.arg (AF key) y).2).2):=by
    simp only [CA]
    unfold HC
    split
    ·grind
    ·rename_i hne
     split
     ·grind
     ·rfl
   grind
  ·exact Yl.no
 ·rename_i op t x
  split
  ·rename_i v hx
   refine(kF (H:=H) (g:=AF key=true) (nx:=st.nx)).mono fun r hr hc=>?_
   grind [CA,rd,bnd]
  ·exact Yl.no
 ·rename_i s d x
  split
  ·rename_i v hx
   refine(dn (H:=H) (g:=AF key=true) (nx:=st.nx) (z:=st.toSt)).mono fun r hr hc=>?_
   grind [CA,rd,bnd]
  ·exact Yl.no
 ·rename_i t x lo hi
  split
  ·rename_i v l h hx hl hh
   refine(gH (H:=H) (nx:=st.nx) (a:=(B2 st.toSt (AF key) lo).2) (b:=(B2 st.toSt (AF key) hi).2) (fun hc=>(L4 hw hk hl hc).2) (fun hc=>(L4 hw hk hh hc).2)).mono fun r hr hc=>?_
   grind [CA,rd,bnd,L4]
  ·exact Yl.no
 ·rename_i s x f
  split
  ·rename_i v hx
   refine(du (H:=H) (g:=AF key=true) (nx:=st.nx) (by grind)).mono fun r hr hc=>?_
   grind [CA,rd,bnd]
  ·exact Yl.no
 ·rename_i t x f
  split
  ·rename_i v hx
   refine(aD (H:=H) (g:=AF key=true) (nx:=st.nx) (by grind)).mono fun r hr hc=>?_
   grind [CA,rd,bnd]
  ·exact Yl.no
 ·rename_i t x y
  split
  ·rename_i u v hx hy
   refine(gI (H:=H) (nx:=st.nx)).mono fun r hr hc=>?_
   grind [CA,rd,bnd]
  ·exact Yl.no
 ·rename_i t x y
  split
  ·rename_i u v hx hy
   refine(dw (H:=H) (nx:=st.nx)).mono fun r hr hc=>?_
   grind [CA,rd,bnd]
  ·exact Yl.no
 ·rename_i x i
  split
  ·rename_i v hx
   refine(gJ (H:=H) (g:=AF key=true) (nx:=st.nx) (by grind)).mono fun r hr hc=>?_
   grind [CA,rd,bnd]
  ·exact Yl.no
 ·rename_i x
  split
  ·rename_i v hx
   refine(dx (H:=H) (g:=AF key=true) (nx:=st.nx) (by grind)).mono fun r hr hc=>?_
   grind [CA,rd,bnd]
  ·exact Yl.no
 ·exact aE hw hk
 ·rename_i f caps
  split
  ·rename_i vs hvs
   split
   ·rename_i cs hcs
    refine Yl.ret fun hc=>?_
    obtain⟨a,b,c⟩:=Cg hw hk hc hvs
    obtain⟨d,e⟩:=JF hcs
    refine⟨by grind [DV.ok,DC.ok],?_⟩
    simp_all [CA,DV.toV,DC.toC]
   ·exact Yl.no
  ·exact Yl.no
 ·rename_i f x xs
  split
  ·rename_i vs hvs
   split
   ·rename_i cs hcs
    refine Yl.ret fun hc=>?_
    obtain⟨a,b,c⟩:=Cg hw hk hc hvs
    obtain⟨d,e⟩:=JF hcs
    refine⟨by grind [DV.ok,DC.ok],?_⟩
    simp_all [CA,DV.toV,DC.toC]
   ·exact Yl.no
  ·exact Yl.no
 ·rename_i c
  split
  ·rename_i b hb
   split
   ·rename_i x t h1 h2
    split
    ·rename_i v hx
     refine(gK (H:=H) (g:=AF key=true) (nx:=st.nx)).mono fun r hr hc=>?_
     grind [CA,rd,Jp,bnd]
    ·exact Yl.no
   ·split
    ·rename_i vs hvs
     split
     ·rename_i k x ys hi
      refine Yl.ret fun hc=>?_
      obtain⟨a,b',c'⟩:=Cg hw hk hc hvs
      refine⟨by simp only [jy,DV.ok,DC.ok],?_⟩
      simp only [CA,rd,hb,Jp,c',S0,JE hi]
      exact⟨⟨b',trivial⟩,rfl⟩
     ·exact Yl.no
    ·exact Yl.no
   ·split
    ·rename_i vs hvs
     split
     ·rename_i k x ys hi
      refine Yl.ret fun hc=>?_
      obtain⟨a,b',c'⟩:=Cg hw hk hc hvs
      refine⟨by simp only [jz,DV.ok,DC.ok],?_⟩
      simp only [CA,rd,hb,Jp,c',S1,JE hi]
      exact⟨⟨b',trivial⟩,rfl⟩
     ·exact Yl.no
    ·exact Yl.no
   ·exact Yl.no
  ·exact Yl.no
 ·exact Yl.no
end
end Go.PL
namespace Go.PL
open Go Go.RowKit
variable {T:AN}
def Ad.put (st:Ad T) (d:Option Nat) (v:DV T):Ad T:=match d with
 | some d=>{st with tm:=(d,st.nx,v)::st.tm,nx:=st.nx+1}
 | none=>st
theorem VV (m d t:Nat) (v:DV T) (tm:Tm T):At m ((d,t,v)::tm)=(At m tm).set d v.toV:=by
 apply List.ext_getElem?
 intro i
 unfold At
 rw [List.getElem?_set]
 simp only [List.getElem?_map,List.length_map,List.length_range]
 by_cases hi:i<m
 ·rw [List.getElem?_range hi]
  simp only [Option.map_some,lk]
  by_cases hd:d=i
  ·simp_all
  grind [Nat.eq_of_beq_eq_true]
 grind
theorem Ad.put_toSt (st:Ad T) (d:Option Nat) (v:DV T):(st.put d v).toSt =st.toSt.put d v.toV:=by
 cases d<;>grind [Ad.put,Ad.toSt,St.put,VV]
def Am.setV (H:Am T) (t:Nat) (v:DV T):Am T:=⟨fun i=>if i=t then v else H.v i,H.e⟩
def Am.setE (H:Am T) (t:Nat) (e:DE T):Am T:=⟨H.v,fun i=>if i=t then e else H.e i⟩
theorem B3.setV (H:Am T) (t:Nat) (v:DV T):B3 t H (H.setV t v):=fun i hi=>⟨by simp only [Am.setV];grind,rfl⟩
theorem B3.setE (H:Am T) (t:Nat) (e:DE T):B3 t H (H.setE t e):=fun i hi=>⟨rfl,by simp only [Am.setE];grind⟩
structure Nx (H:Am T) (st:Ad T) (H':Am T) (st':Ad T):Prop where
 ext:B3 st.nx H H'
 le:st.nx≤st'.nx
 ok:Av H' st'
theorem Nx.refl {H:Am T} {st:Ad T} (h:Av H st):Nx H st H st:=⟨B3.refl _ _,Nat.le_refl _,h⟩
theorem Nx.trans {H H' H'':Am T} {a b c:Ad T} (h:Nx H a H' b) (k:Nx H' b H'' c):Nx H a H'' c:=⟨h.ext.trans k.ext h.le,Nat.le_trans h.le k.le,k.ok⟩
theorem Dh {H H':Am T} {n m:Nat} (he:B3 n H H') (hnm:n≤m) {l:List (DE T)} (h: ∀ e∈l,e.tag<n∧H.e e.tag=e∧e.x.ok): ∀ e∈l,e.tag<m∧H'.e e.tag=e∧e.x.ok:=fun e hm=>by
 obtain⟨a,b,c⟩:=h e hm
 exact⟨(by grind),by rw [(he e.tag a).2];exact b,c⟩
theorem Ad.put_nx {H:Am T} {st:Ad T} (h:Av H st) (d:Option Nat) {v:DV T} (hv:v.ok H st.nx): ∃ H',Nx H st H' (st.put d v):=by
 cases d with
 | none=>exact⟨H,Nx.refl h⟩
 | some d=>
   have he:=B3.setV H st.nx v
   refine⟨H.setV st.nx v,he,by simp [Ad.put],?_,?_,?_,h.nd⟩
   ·intro s t w hm
    simp only [Ad.put]at hm ⊢
    rcases List.mem_cons.1 hm with hm | hm
    ·injection hm with h1 hm;injection hm with h2 h3;subst h1 h2 h3
     exact⟨Nat.lt_succ_self _,by simp [Am.setV],DV.ok_ext he (Nat.le_succ _) hv⟩
    ·exact Bg he (Nat.le_succ _) h.tm s t w hm
   ·intro f hf
    exact Bg he (Nat.le_succ _) (h.gh f hf)
   ·exact Dh he (Nat.le_succ _) h.so
def I9 (p:DV T→Bool) (f:DV T→DV T):Nat→Tm T→Tm T
 | _,[]=>[]
 | n,(s,t,v)::r=>match p v with
   | true=>(s,n,f v)::I9 p f (n+1) r
   | false=>(s,t,v)::I9 p f (n+1) r
def JG (p:DV T→Bool) (f:DV T→DV T):Nat→List (Nat×Tm T)→List (Nat×Tm T)
 | _,[]=>[]
 | n,(m,tm)::r=>(m,I9 p f n tm)::JG p f (n+tm.length) r
def HX:List (Nat×Tm T)→Nat
 | []=>0
 | (_,tm)::r=>tm.length+HX r
def JH (q:DX T→Bool) (g:DX T→DX T):Nat→List (DE T)→List (DE T)
 | _,[]=>[]
 | n,e::r=>match q e.x with
   | true=>⟨e.id,n,g e.x⟩::JH q g (n+1) r
   | false=>e::JH q g (n+1) r
def Ad.remap (p:DV T→Bool) (f:DV T→DV T) (q:DX T→Bool) (g:DX T→DX T) (st:Ad T):Ad T:=
 {st with tm:=I9 p f st.nx st.tm,gh:=JG p f (st.nx+st.tm.length) st.gh,so:=JH q g (st.nx+st.tm.length+HX st.gh) st.so,nx:=st.nx+st.tm.length+HX st.gh+st.so.length}
section
variable {p:DV T→Bool} {f:DV T→DV T} {q:DX T→Bool} {g:DX T→DX T}
theorem NW (hf: ∀ {H:Am T} {n:Nat} {v:DV T},v.ok H n→(f v).ok H n): ∀ (tm:Tm T) (n:Nat) (H:Am T),JC H n tm→ ∃ H',B3 n H H'∧JC H' (n+tm.length) (I9 p f n tm)
 | [],n,H,_=>⟨H,B3.refl _ _,fun _ _ _ h=>by cases h⟩
 | (s,t,v)::r,n,H,h=>by
   obtain⟨a,b,c⟩:=h s t v (by simp)
   have hr:JC H n r:=fun s' t' v' hm=>h s' t' v' (by simp [hm])
   unfold I9
   split
   ·have he:=B3.setV H n (f v)
    obtain⟨H',h1,h2⟩:=NW hf r (n+1) (H.setV n (f v)) (Bg he (Nat.le_succ _) hr)
    refine⟨H',he.trans h1 (Nat.le_succ _),fun s' t' v' hm=>?_⟩
    rw [show n+((s,t,v)::r).length =n+1+r.length by simp;omega]
    rcases List.mem_cons.1 hm with hm | hm
    ·injection hm with e1 hm;injection hm with e2 e3;subst e1 e2 e3
     refine⟨by omega,?_,DV.ok_ext (he.trans h1 (Nat.le_succ _)) (by omega) (hf c)⟩
     rw [(h1 t' (by omega)).1];simp [Am.setV]
    ·exact h2 s' t' v' hm
   ·obtain⟨H',h1,h2⟩:=NW hf r (n+1) H (Bg (B3.refl _ _) (Nat.le_succ _) hr)
    have h1':B3 n H H':=fun i hi=>h1 i (by omega)
    refine⟨H',h1',fun s' t' v' hm=>?_⟩
    rw [show n+((s,t,v)::r).length =n+1+r.length by simp;omega]
    rcases List.mem_cons.1 hm with hm | hm
    ·injection hm with e1 hm;injection hm with e2 e3;subst e1 e2 e3
     refine⟨by omega,?_,DV.ok_ext h1' (by omega) c⟩
     rw [(h1' t' a).1];exact b
    ·exact h2 s' t' v' hm
theorem Y2 (hf: ∀ {H:Am T} {n:Nat} {v:DV T},v.ok H n→(f v).ok H n): ∀ (l:List (Nat×Tm T)) (n:Nat) (H:Am T),(∀ x∈l,JC H n x.2)→ ∃ H',B3 n H H'∧ ∀ x∈JG p f n l,JC H' (n+HX l) x.2
 | [],n,H,_=>⟨H,B3.refl _ _,fun _ h=>by cases h⟩
 | (m,tm)::r,n,H,h=>by
   obtain⟨H1,a,b⟩:=NW (p:=p) hf tm n H (h (m,tm) (by simp))
   obtain⟨H2,c,d⟩:=Y2 hf r (n+tm.length) H1 (by grind [Bg])
   refine⟨H2,a.trans c (by omega),fun x hx=>?_⟩
   have e:n+HX ((m,tm)::r)=n+tm.length+HX r:=by simp [HX];omega
   rw [e]
   rcases List.mem_cons.1 hx with rfl | hx
   all_goals grind [Bg]
theorem TM (hg: ∀ {x:DX T},x.ok→(g x).ok): ∀ (l:List (DE T)) (n:Nat) (H:Am T),(∀ e∈l,e.tag<n∧H.e e.tag=e∧e.x.ok)→ ∃ H',B3 n H H'∧ ∀ e∈JH q g n l,e.tag<n+l.length∧H'.e e.tag=e∧e.x.ok
 | [],n,H,_=>⟨H,B3.refl _ _,fun _ h=>by cases h⟩
 | e::r,n,H,h=>by
   obtain⟨a,b,c⟩:=h e (by simp)
   have hr: ∀ e∈r,e.tag<n∧H.e e.tag=e∧e.x.ok:=(by grind)
   unfold JH
   split
   ·have he:=B3.setE H n ⟨e.id,n,g e.x⟩
    obtain⟨H',h1,h2⟩:=TM hg r (n+1) (H.setE n ⟨e.id,n,g e.x⟩) (Dh he (Nat.le_succ _) hr)
    refine⟨H',he.trans h1 (Nat.le_succ _),fun x hm=>?_⟩
    rw [show n+(e::r).length =n+1+r.length by simp;omega]
    rcases List.mem_cons.1 hm with rfl | hm
    ·refine⟨by grind,?_,hg c⟩
     simp only
     rw [(h1 n (by omega)).2];simp [Am.setE]
    grind
   ·obtain⟨H',h1,h2⟩:=TM hg r (n+1) H (by grind)
    have h1':B3 n H H':=fun i hi=>h1 i (by omega)
    refine⟨H',h1',fun x hm=>?_⟩
    rw [show n+(e::r).length =n+1+r.length by simp;omega]
    rcases List.mem_cons.1 hm with rfl | hm
    ·exact⟨by omega,by rw [(h1' x.tag a).2];exact b,c⟩
    grind
theorem VW: ∀ (l:List (DE T)) (n:Nat),(JH q g n l).map DE.id=l.map DE.id
 | [],_=>rfl
 | e::r,n=>by
   unfold JH
   split<;>simp [VW r]
theorem Ad.remap_nx {H:Am T} {st:Ad T} (h:Av H st) (hf: ∀ {H:Am T} {n:Nat} {v:DV T},v.ok H n→(f v).ok H n) (hg: ∀ {x:DX T},x.ok→(g x).ok): ∃ H',Nx H st H' (st.remap p f q g):=by
 obtain⟨H1,a1,b1⟩:=NW (p:=p) hf st.tm st.nx H h.tm
 obtain⟨H2,a2,b2⟩:=Y2 (p:=p) hf st.gh (st.nx+st.tm.length) H1 (fun x hx=>Bg a1 (by omega) (h.gh x hx))
 obtain⟨H3,a3,b3⟩:=TM (q:=q) hg st.so (st.nx+st.tm.length+HX st.gh) H2 (Dh (a1.trans a2 (by omega)) (by omega) h.so)
 have a23:B3 (st.nx+st.tm.length) H1 H3:=a2.trans a3 (by omega)
 refine⟨H3,a1.trans a23 (by omega),by grind [Ad.remap],?_,?_,b3,by simp only [Ad.remap,VW];exact h.nd⟩
 all_goals grind [Bg,Ad.remap]
theorem HF (hu:p .u =false) (i:Nat): ∀ (tm:Tm T) (n:Nat),lk (I9 p f n tm) i=(match p (lk tm i)with | true=>f (lk tm i) | false=>lk tm i)
 | [],n=>by simp [I9,lk,hu]
 | (s,t,v)::r,n=>by
   unfold I9
   split
   ·rename_i hp
    simp only [lk]
    cases Nat.beq s i with
    | true=>simp only [hp]
    | false=>exact HF hu i r (n+1)
   ·rename_i hp
    simp only [lk]
    cases Nat.beq s i with
    | true=>simp only [hp]
    | false=>exact HF hu i r (n+1)
theorem VX {F:V→V} (hu:p .u =false) {tm:Tm T} (h1: ∀ i,p (lk tm i)=true→(f (lk tm i)).toV =F (lk tm i).toV) (h2: ∀ i,p (lk tm i)=false→F (lk tm i).toV =(lk tm i).toV) (m n:Nat):At m (I9 p f n tm)=(At m tm).map F:=by
 unfold At
 rw [List.map_map]
 apply List.map_congr_left
 intro i _
 simp only [Function.comp,HF hu]
 grind
theorem VY {F:V→V} (hu:p .u =false): ∀ {l:List (Nat×Tm T)} (n:Nat),(∀ x∈l, ∀ i,(p (lk x.2 i)=true→(f (lk x.2 i)).toV =F (lk x.2 i).toV)∧(p (lk x.2 i)=false→F (lk x.2 i).toV =(lk x.2 i).toV))→
 (JG p f n l).flatMap (fun f=>At f.1 f.2)=(l.flatMap fun f=>At f.1 f.2).map F
 | [],_,_=>rfl
 | (m,tm)::r,n,h=>by
   simp only [JG,List.flatMap_cons,List.map_append]
   rw [VY hu (n+tm.length) (fun x hx=>h x (by simp [hx])),VX hu (fun i=>(h (m,tm) (by simp) i).1) (fun i=>(h (m,tm) (by simp) i).2)]
theorem Im {F:Ak→Ak}: ∀ {l:List (DE T)} (n:Nat),(∀ e∈l,(q e.x=true→ ∀ t,(⟨e.id,t,g e.x⟩:DE T).toE =F e.toE)∧(q e.x=false→F e.toE=e.toE))→(JH q g n l).map DE.toE=(l.map DE.toE).map F
 | [],_,_=>rfl
 | e::r,n,h=>by
   have ih:=Im (n+1) (fun x hx=>h x (by simp [hx])) (l:=r)
   unfold JH
   split
   ·rename_i hq
    simp only [List.map_cons,ih,(h e (by simp)).1 hq]
   ·rename_i hq
    simp only [List.map_cons,ih,(h e (by simp)).2 hq]
end
theorem BJ (a b:Ae):AG a b=(a==b):=by
 grind [Az]
def gL (id:Ae):C→Bool
 | .osl i=>AG i id
 | .ptr i _=>AG i id
 | .bsl i _ _=>AG i id
 | .rsl i _ _ _=>AG i id
 | .bld i _=>AG i id
 | .mref i=>AG i id
 | .clo _ cs=>Bd id cs
 | .bmv _ cs=>Bd id cs
 | _=>false
theorem gM (id:Ae) (c:C):gL id c=c.men id:=by
 cases c<;>simp only [gL,C.men,BJ]
mutual
def DC.men (id:Ae):DC T→Bool
 | .c x=>gL id x
 | .rp i _ _ _=>AG i id
 | .ap i _ _ _ _ _=>AG i id
 | .bs i _ _ _=>AG i id
 | .clo _ _ cs=>K6 id cs
 | .k _ _=>false
 | .ip .. =>false
def K6 (id:Ae):List (DC T)→Bool
 | []=>false
 | c::cs=>match c.men id with
   | true=>true
   | false=>K6 id cs
end
mutual
theorem DC.men_eq (id:Ae): ∀ c:DC T,c.men id=c.toC.men id
 | .c x=>by simp only [DC.men,DC.toC,gM]
 | .rp .. =>by simp only [DC.men,DC.toC,C.men,BJ]
 | .ap .. =>by simp only [DC.men,DC.toC,C.men,BJ]
 | .bs .. =>by simp only [DC.men,DC.toC,C.men,BJ]
 | .clo true _ cs=>by simp only [DC.men,DC.toC,C.men,In id cs]
 | .clo false _ cs=>by simp only [DC.men,DC.toC,C.men,In id cs]
 | .k kd x=>by cases kd<;>simp only [DC.men,DC.toC,AQ,C.men]
 | .ip .. =>by simp only [DC.men,DC.toC,C.men]
theorem In (id:Ae): ∀ cs:List (DC T),K6 id cs=Bd id (Al cs)
 | []=>by simp only [K6,Al,Bd]
 | c::cs=>by
   simp only [K6,Al,Bd,DC.men_eq id c,In id cs]
   cases c.toC.men id<;>rfl
end
mutual
def DV.men (id:Ae):DV T→Bool
 | .c x=>x.men id
 | .agg cs=>K6 id cs
 | .tup vs=>R7 id vs
 | .g _ v=>v.men id
 | .u =>false
def R7 (id:Ae):List (DV T)→Bool
 | []=>false
 | v::vs=>match v.men id with
   | true=>true
   | false=>R7 id vs
end
mutual
theorem DV.men_le (id:Ae): ∀ v:DV T,v.men id=false→v.toV.men id=false
 | .c x,h=>by grind [DV.men,DV.toV,V.men,DC.men_eq]
 | .agg cs,h=>by grind [DV.men,DV.toV,V.men,In]
 | .tup vs,h=>by simp only [DV.men]at h;simp only [DV.toV,V.men];exact VZ id vs h
 | .g k v,h=>by simp only [DV.men]at h;simp only [DV.toV,V.men,DV.men_le id v h,Bool.false_and]
 | .u,_=>by simp only [DV.toV,V.men]
theorem VZ (id:Ae): ∀ vs:List (DV T),R7 id vs=false→GG id (AH vs)=false
 | [],_=>by simp only [AH,GG]
 | v::vs,h=>by
   simp only [R7]at h
   split at h
   ·cases h
   ·rename_i hv
    simp only [AH,GG,DV.men_le id v hv,VZ id vs h,Bool.or_self]
end
def Pc (id:Ae) (c:DC T):DC T:=match c.men id with
 | true=> .c .any
 | false=>c
def DX.men (id:Ae):DX T→Bool
 | .box cs=>K6 id cs
 | .row _ _=>false
 | .deep .. =>false
def Io (id:Ae):DX T→DX T
 | .box cs=> .box (cs.map (Pc id))
 | x=>x
def V0 (p:DV T→Bool):Tm T→Bool
 | []=>true
 | (_,_,v)::r=>match p v with
   | true=>V0 p r
   | false=>false
def Y3 (p:DV T→Bool):List (Nat×Tm T)→Bool
 | []=>true
 | (_,tm)::r=>match V0 p tm with
   | true=>Y3 p r
   | false=>false
def Y4 (q:DX T→Bool):List (DE T)→Bool
 | []=>true
 | e::r=>match q e.x with
   | true=>Y4 q r
   | false=>false
theorem JI {p:DV T→Bool} (hu:p .u =true): ∀ {tm:Tm T},V0 p tm=true→ ∀ i,p (lk tm i)=true
 | [],_,i=>hu
 | (s,t,v)::r,h,i=>by
   simp only [V0]at h
   split at h
   ·rename_i hv
    simp only [lk]
    cases Nat.beq s i
    ·exact JI hu h i
    ·exact hv
   ·cases h
theorem Pd {p:DV T→Bool} (hu:p .u =true): ∀ {l:List (Nat×Tm T)},Y3 p l=true→ ∀ x∈l, ∀ i,p (lk x.2 i)=true
 | [],_,x,hx,_=>by cases hx
 | (m,tm)::r,h,x,hx,i=>by
   simp only [Y3]at h
   split at h
   ·rename_i hv
    rcases List.mem_cons.1 hx with rfl | hx
    ·exact JI hu hv i
    ·exact Pd hu h x hx i
   ·cases h
theorem Pe {q:DX T→Bool}: ∀ {l:List (DE T)},Y4 q l=true→ ∀ e∈l,q e.x=true
 | [],_,e,he=>by cases he
 | x::r,h,e,he=>by
   simp only [Y4]at h
   split at h
   ·rename_i hv
    rcases List.mem_cons.1 he with rfl | he
    ·exact hv
    ·exact Pe h e he
   ·cases h
def Ad.noMen (st:Ad T) (id:Ae):Bool:=V0 (fun v=> !(v.men id)) st.tm&&(Y3 (fun v=> !(v.men id)) st.gh&&Y4 (fun x=> !(x.men id)) st.so)
def Ad.kill (st:Ad T) (id:Ae):Option (Ad T):=match BX id||Db id with
 | true=>none
 | false=>match st.noMen id with
   | true=>some {st with so:=st.so.filter fun e=> !(AG e.id id)}
   | false=>some (let s:=st.remap (DV.men id) (fun _=> .u) (DX.men id) (Io id);{s with so:=s.so.filter fun e=> !(AG e.id id)})
theorem aH {id:Ae} {c:DC T} (h:c.ok):(Pc id c).ok :=by
 grind [Pc,DC.ok]
theorem XH (id:Ae) (c:DC T):(Pc id c).toC =EL id c.toC:=by
 grind [Pc,EL,DC.men_eq,DC.toC]
theorem EV {α:Type} {F:α→α}: ∀ {l:List α},(∀ x∈l,F x=x)→l.map F=l
 | [],_=>rfl
 | a::l,h=>by rw [List.map_cons,h a (by simp),EV (fun x hx=>h x (by simp [hx]))]
theorem dz {F:V→V} {m:Nat} {tm:Tm T} (h: ∀ i,F (lk tm i).toV =(lk tm i).toV):(At m tm).map F=At m tm:=by
 refine EV fun x hx=>?_
 obtain⟨i,_,rfl⟩:=List.mem_map.1 hx
 exact h i
theorem m9 {F:V→V} {l:List (Nat×Tm T)} (h: ∀ x∈l, ∀ i,F (lk x.2 i).toV =(lk x.2 i).toV):(l.flatMap fun f=>At f.1 f.2).map F=l.flatMap fun f=>At f.1 f.2:=by
 refine EV fun x hx=>?_
 obtain⟨y,hy,hx⟩:=List.mem_flatMap.1 hx
 obtain⟨i,_,rfl⟩:=List.mem_map.1 hx
 grind
def Fw:List V→List V→Prop
 | [],[]=>True
 | x::xs,y::ys=>(y= .undef ∨y=x)∧Fw xs ys
 | _,_=>False
theorem Fw.refl: ∀ l:List V,Fw l l
 | []=>trivial
 | x::xs=>⟨.inr rfl,Fw.refl xs⟩
theorem Fw.append: ∀ {a b c d:List V},Fw a b→Fw c d→Fw (a++c) (b++d)
 | [],[],_,_,_,h=>h
 | [],_::_,_,_,h,_=>h.elim
 | _::_,[],_,_,h,_=>h.elim
 | _::_,_::_,_,_,h,k=>⟨h.1,h.2.append k⟩
theorem Fw.get: ∀ {a b:List V},Fw a b→b.length=a.length∧ ∀ i,b.getD i .undef = .undef ∨b.getD i .undef =a.getD i .undef
 | [],[],_=>(by grind)
 | [],_::_,h=>h.elim
 | _::_,[],h=>h.elim
 | x::xs,y::ys,h=>by
   obtain⟨h1,h2⟩:=Fw.get h.2
   refine⟨by simp [h1],fun i=>?_⟩
   cases i with
   | zero=>simpa using h.1
   | succ i=>simpa using h2 i
theorem Fw.map {α:Type} {f g:α→V}: ∀ {l:List α},(∀ x∈l,g x= .undef ∨g x=f x)→Fw (l.map f) (l.map g)
 | [],_=>trivial
 | a::l,h=>⟨h a (by simp),Fw.map fun x hx=>h x (by simp [hx])⟩
theorem Fw.set: ∀ {a b:List V},Fw a b→ ∀ (i:Nat) (v:V),Fw (a.set i v) (b.set i v)
 | [],[],_,_,_=>trivial
 | [],_::_,h,_,_=>h.elim
 | _::_,[],h,_,_=>h.elim
 | _::_,_::_,h,0,v=>⟨.inr rfl,h.2⟩
 | _::_,_::_,h,i+1,v=>⟨h.1,h.2.set i v⟩
theorem Fw.of {a b:List V} (hl:b.length=a.length) (h: ∀ i,b.getD i .undef = .undef ∨b.getD i .undef =a.getD i .undef):Fw a b:=by
 induction a generalizing b with
 | nil=>
   cases b with
   | nil=>trivial
   | cons y ys=>simp at hl
 | cons x xs ih=>
   cases b with
   | nil=>simp at hl
   | cons y ys=>exact⟨by simpa using h 0,ih (by grind) (fun i=>by simpa using h (i+1))⟩
theorem Bk.put {a b:St} (h:Bk a b) (d:Option Nat) (v:V):Bk (a.put d v) (b.put d v):=by
 cases d with
 | none=>exact h
 | some d=>
   have:=((Fw.of h.len h.tm).set d v).get
   exact⟨this.1,this.2,h.so,h.nd,h.gh,h.pre⟩
theorem CX {H:Am T} {st:Ad T} (h:Av H st) (p:DE T→Bool):Av H {st with so:=st.so.filter p}:=
 ⟨h.tm,h.gh,fun e he=>h.so e (by grind),List.Sublist.nodup (by grind [List.filter_sublist]) h.nd⟩
theorem Pf (id:Ae) (hd:BX id=false) (l:List (DE T)):(l.filter fun e=> !(AG e.id id)).map DE.toE=(l.map DE.toE).filter (fun e=>e.id != id&& !(BX id&&Db e.id)):=by
 induction l with
 | nil=>rfl
 | cons e l ih=>
   simp only [List.filter_cons,List.map_cons,DE.toE_id,hd,Bool.false_and,Bool.not_false,Bool.and_true,BJ]at ih ⊢
   grind
theorem TN {id:Ae} {e:DE T} (h:e.x.men id=false):e.toE.fre id=true:=by
 grind [Ak.fre,DE.toE,DX.men,In]
theorem XI {id:Ae} {e:DE T} (t:Nat):(⟨e.id,t,Io id e.x⟩:DE T).toE =Ak.kill id e.toE:=by
 unfold DE.toE
 cases hxx:e.x with
 | box cs=>
   simp only [Io,Ak.kill,BB,List.map_map,Ak.mk.injEq,and_true,true_and]
   grind [List.map_congr_left,XH]
 | row E l=>rfl
 | deep E n l h=>rfl
theorem V1 (id:Ae) (p:Ae→Bool→Bool) (l:List Ak):(l.map (Ak.kill id)).filter (fun e=>e.id != id&& !(BX id&&Db e.id))=(l.filter (fun e=>e.id != id&& !(BX id&&Db e.id))).map (Ak.kill id):=by
 induction l<;>grind [Ak.kill_id]
theorem V2 {id:Ae} {m n:Nat} {tm:Tm T}:Fw ((At m tm).map (CN id)) (At m (I9 (DV.men id) (fun _=> .u) n tm)):=by
 unfold At
 rw [List.map_map]
 refine Fw.map fun i _=>?_
 simp only [Function.comp,HF (p:=DV.men id) (f:=fun _=>DV.u) (by simp [DV.men])]
 grind [DV.toV,KU,DV.men_le]
theorem jA {id:Ae}: ∀ (l:List (Nat×Tm T)) (n:Nat),Fw ((l.flatMap fun f=>At f.1 f.2).map (CN id)) ((JG (DV.men id) (fun _=> .u) n l).flatMap fun f=>At f.1 f.2)
 | [],_=>trivial
 | (m,tm)::r,n=>by
   simp only [JG,List.flatMap_cons,List.map_append]
   exact V2.append (jA r _)
theorem Ad.kill_spec {H:Am T} {st st':Ad T} {id:Ae} (h:Av H st) (hk:st.kill id=some st'):(∃ H',Nx H st H' st')∧Bk (st.toSt.kill id) st'.toSt∧st'.toSt.so=(st.toSt.kill id).so ∧BX id=false∧Db id=false∧st'.pre=st.pre∧ ∀ e∈st'.so,e.id ≠ id:=by
 have nid: ∀ l:List (DE T), ∀ e∈l.filter (fun e=> !(AG e.id id)),e.id ≠ id:=(by grind [Az])
 unfold Ad.kill at hk
 split at hk
 ·cases hk
 ·rename_i hd
  simp only [Bool.or_eq_false_iff]at hd
  split at hk
  ·rename_i hn
   injection hk with hk;subst hk
   simp only [Ad.noMen,Bool.and_eq_true]at hn
   obtain⟨n1,n2,n3⟩:=hn
   have k1: ∀ i,CN id (lk st.tm i).toV =(lk st.tm i).toV :=(by grind [KU,DV.men_le,JI,DV.men])
   have k2: ∀ x∈st.gh, ∀ i,CN id (lk x.2 i).toV =(lk x.2 i).toV :=fun x hx i=>(by grind [KU,DV.men_le,Pd,DV.men])
   have e:(({st with so:=st.so.filter fun e=> !(AG e.id id)}:Ad T)).toSt =st.toSt.kill id:=by
    simp only [Ad.toSt,St.kill,St.mk.injEq,and_true]
    refine⟨(dz k1).symm,?_,(m9 k2).symm⟩
    rw [Pf id hd.1]
    refine(EV fun e he=>?_).symm
    obtain⟨x,hx,rfl⟩:=List.mem_map.1 (List.mem_filter.1 he).1
    grind [Pe,Ak.kill_eq,TN]
   exact⟨⟨H,B3.refl _ _,Nat.le_refl _,CX h _⟩,e▸Bk.refl _,by rw [e],hd.1,hd.2,rfl,nid _⟩
  ·injection hk with hk;subst hk
   obtain⟨H',hN⟩:=Ad.remap_nx (p:=DV.men id) (f:=fun _=> .u) (q:=DX.men id) (g:=Io id) h (fun _=>by simp only [DV.ok]) (fun {x} hx=>by
    cases x with
    | box cs=>
      simp only [Io,DX.ok]at hx ⊢
      refine B8.2 fun c hc=>?_
      obtain⟨d,h1,rfl⟩:=List.mem_map.1 hc
      grind [aH,B8]
    | row E l=>exact hx
    | deep E n l h=>exact hx)
   have hso:(((JH (DX.men id) (Io id) (st.nx+st.tm.length+HX st.gh) st.so).filter fun e=> !(AG e.id id)).map DE.toE)=(st.toSt.kill id).so :=by
    rw [Pf id hd.1,Im (F:=Ak.kill id) _ (fun e _=>⟨fun _ t=>XI t,fun hm=>Ak.kill_eq (TN hm)⟩)]
    exact V1 id (fun _ _=>true) _
   refine⟨⟨H',hN.ext,hN.le,CX hN.ok _⟩,?_,hso,hd.1,hd.2,rfl,nid _⟩
   have a:=(V2 (id:=id) (m:=st.m) (n:=st.nx) (tm:=st.tm)).get
   have b:=(jA (id:=id) st.gh (st.nx+st.tm.length)).get
   exact⟨a.1,a.2,fun e he=>by rw [←hso];exact he,fun hn=>by
    have:(Ad.toSt {(st.remap (DV.men id) (fun _=> .u) (DX.men id) (Io id))with so:=(st.remap (DV.men id) (fun _=> .u) (DX.men id) (Io id)).so.filter fun e=> !(AG e.id id)}).so =(st.toSt.kill id).so :=hso
    grind,b,rfl⟩
def Ad.new (st:Ad T) (id:Ae) (x:DX T):Option (Ad T):=match st.kill id,x.men id with
 | some s,false=>some {s with so:=⟨id,s.nx,x⟩::s.so,nx:=s.nx+1}
 | _,_=>none
theorem Ad.new_spec {H:Am T} {st st':Ad T} {id:Ae} {x:DX T} (h:Av H st) (hx:x.ok) (hk:st.new id x=some st'):(∃ H',Nx H st H' st')∧Bk (st.toSt.new (⟨id,0,x⟩:DE T).toE) st'.toSt∧st'.pre=st.pre:=by
 unfold Ad.new at hk
 split at hk
 ·rename_i s hs hm
  injection hk with hk;subst hk
  obtain⟨⟨H',hN⟩,h2,h2',h3,h4,h5,h6⟩:=Ad.kill_spec h hs
  have he:=B3.setE H' s.nx ⟨id,s.nx,x⟩
  refine⟨⟨H'.setE s.nx ⟨id,s.nx,x⟩,hN.trans ⟨he,Nat.le_succ _,?_,?_,?_,?_⟩⟩,?_,h5⟩
  ·exact Bg he (Nat.le_succ _) hN.ok.tm
  ·exact fun f hf=>Bg he (Nat.le_succ _) (hN.ok.gh f hf)
  ·intro e hm'
   rcases List.mem_cons.1 hm' with rfl | hm'
   ·simp_all [Am.setE]
   ·exact Dh he (Nat.le_succ _) hN.ok.so e hm'
  ·rw [List.map_cons]
   refine List.nodup_cons.2 ⟨fun hm'=>?_,hN.ok.nd⟩
   grind
  ·have e1:(⟨id,0,x⟩:DE T).toE.id =id:=DE.toE_id _
   have e2:(⟨id,s.nx,x⟩:DE T).toE =(⟨id,0,x⟩:DE T).toE :=rfl
   have e3:Ak.kill id (⟨id,0,x⟩:DE T).toE =(⟨id,0,x⟩:DE T).toE :=Ak.kill_eq (TN hm)
   have e5:(st.toSt.new (⟨id,0,x⟩:DE T).toE).so =(⟨id,0,x⟩:DE T).toE ::s.toSt.so:=by
    grind [St.new,Kx]
   have e6:(Ad.toSt {s with so:=⟨id,s.nx,x⟩::s.so,nx:=s.nx+1}).so =(⟨id,0,x⟩:DE T).toE ::s.toSt.so:=rfl
   have hl:=h2
   rw [show (st.toSt.kill id)=st.toSt.kill (⟨id,0,x⟩:DE T).toE.id by rw [e1]]at hl
   exact⟨hl.len,hl.tm,(by grind),(by grind),hl.gh,by show s.pre=st.pre;exact h5⟩
 ·cases hk
end Go.PL
namespace Go.PL
open Go Go.RowKit
variable {T:AN}
def HY (id:Ae) (E:Nat) (l:List (T.den E)) (c:DC T):DC T:=match c.men id with
 | false=>c
 | true=>match c with
   | .c (.osl _)=> .k (.lst E) l
   | _=> .c .any
mutual
def CY (id:Ae) (E:Nat) (l:List (T.den E)):DV T→DV T
 | .c x=> .c (HY id E l x)
 | .agg cs=> .agg (cs.map (HY id E l))
 | .tup vs=> .tup (F5 id E l vs)
 | .g k v=> .g k (CY id E l v)
 | .u => .u
def F5 (id:Ae) (E:Nat) (l:List (T.den E)):List (DV T)→List (DV T)
 | []=>[]
 | v::vs=>CY id E l v::F5 id E l vs
end
def R8 (id:Ae) (E:Nat) (l:List (T.den E)):DX T→DX T
 | .box cs=> .box (cs.map (HY id E l))
 | x=>x
def Ad.frz (st:Ad T) (id:Ae):Option (Ad T):=match CJ st id with
 | some ⟨E,l⟩=>some (let s:=st.remap (DV.men id) (CY id E l) (DX.men id) (R8 id E l);{s with so:=s.so.filter fun e=> !(AG e.id id)})
 | none=>none
section
variable {id:Ae} {E:Nat} {l:List (T.den E)}
theorem R9 (c:DC T):(HY id E l c).toC =Gm id l.length (l.flatMap (T.enc E)) c.toC:=by
 unfold HY
 cases hm:c.men id with
 | false=>
   rw [DC.men_eq]at hm
   simp only
   cases hc:c.toC<;>rw [hc]at hm<;>simp only [C.men,beq_eq_false_iff_ne,ne_eq]at hm<;>simp only [Gm]<;>first
    | grind
    | grind
    | rfl
 | true=>
   have hm':=hm
   rw [DC.men_eq]at hm'
   simp only
   split
   ·simp_all [DC.men,gL,Az,DC.toC,AQ,Gm]
   ·rename_i hne
    have: ∀ i,c.toC ≠ .osl i:=fun i he=>by
     cases c with
     | c x=>simp only [DC.toC]at he;simp_all
     | k kd x=>cases kd<;>simp [DC.toC,AQ]at he
     | ip=>simp [DC.toC]at he
     | rp=>simp [DC.toC]at he
     | ap=>simp [DC.toC]at he
     | bs=>simp [DC.toC]at he
     | clo b f cs=>cases b<;>simp [DC.toC]at he
    cases hc:c.toC<;>rw [hc]at hm' this<;>simp only [C.men,beq_iff_eq,Bool.false_eq_true]at hm'<;>simp only [Gm,DC.toC]<;>first
     | grind
     | grind
theorem Pg {c:DC T} (h:c.ok):(HY id E l c).ok :=by
 unfold HY
 grind [DC.ok]
theorem Ph (cs:List (DC T)):Al (cs.map (HY id E l))=(Al cs).map (Gm id l.length (l.flatMap (T.enc E))):=by
 grind [BB,List.map_congr_left,R9]
mutual
theorem L5: ∀ v:DV T,(CY id E l v).toV =GY id l.length (l.flatMap (T.enc E)) v.toV
 | .c x=>by simp only [CY,DV.toV,GY,R9]
 | .agg cs=>by simp only [CY,DV.toV,GY,Ph]
 | .tup vs=>by simp only [CY,DV.toV,GY,Pi vs]
 | .g k v=>by simp only [CY,DV.toV,GY,L5 v]
 | .u =>by simp only [CY,DV.toV,GY]
theorem Pi: ∀ vs:List (DV T),AH (F5 id E l vs)=HV id l.length (l.flatMap (T.enc E)) (AH vs)
 | []=>by simp only [F5,AH,HV]
 | v::vs=>by simp only [F5,AH,HV,L5 v,Pi vs]
end
theorem Pj: ∀ {cs:List (DC T)},K6 id cs=false→cs.map (HY id E l)=cs
 | [],_=>rfl
 | c::cs,h=>by
   simp only [K6]at h
   split at h
   ·cases h
   ·rename_i hc
    have:HY id E l c=c:=by unfold HY;simp only [hc]
    rw [List.map_cons,Pj h,this]
mutual
theorem Pk: ∀ v:DV T,v.men id=false→CY id E l v=v
 | .c x,h=>by simp_all [DV.men,CY,HY]
 | .agg cs,h=>by grind [DV.men,CY,Pj]
 | .tup vs,h=>by simp only [DV.men]at h;simp only [CY,Sa vs h]
 | .g k v,h=>by simp only [DV.men]at h;simp only [CY,Pk v h]
 | .u,_=>by simp only [CY]
theorem Sa: ∀ vs:List (DV T),R7 id vs=false→F5 id E l vs=vs
 | [],_=>by simp only [F5]
 | v::vs,h=>by
   simp only [R7]at h
   split at h
   ·cases h
   ·rename_i hv
    simp only [F5,Pk v hv,Sa vs h]
end
theorem K7 {f:DC T→DC T} (hf: ∀ c,c.ok→(f c).ok) {cs:List (DC T)} (h:Bs cs):Bs (cs.map f):=B8.2 fun c hc=>by
 obtain⟨d,h1,rfl⟩:=List.mem_map.1 hc
 grind [B8]
mutual
theorem Pl {H:Am T} {n:Nat}: ∀ {v:DV T},v.ok H n→(CY id E l v).ok H n
 | .c x,h=>by grind [DV.ok,CY,Pg]
 | .agg cs,h=>by grind [DV.ok,CY,K7,Pg]
 | .tup vs,h=>by simp only [DV.ok,CY]at h ⊢;exact Sb h
 | .g k v,h=>by simp only [DV.ok,CY]at h ⊢;exact⟨h.1,fun q=>Pl (h.2 q)⟩
 | .u,_=>by simp only [DV.ok,CY]
theorem Sb {H:Am T} {n:Nat}: ∀ {vs:List (DV T)},BR H n vs→BR H n (F5 id E l vs)
 | [],_=>by simp only [BR,F5]
 | v::vs,h=>by simp only [BR,F5]at h ⊢;exact⟨Pl h.1,Sb h.2⟩
end
theorem Sc {e:DE T} (t:Nat):(⟨e.id,t,R8 id E l e.x⟩:DE T).toE =Ak.frz id l.length (l.flatMap (T.enc E)) e.toE:=by
 grind [DE.toE,R8,Ak.frz,Ph]
theorem dC {e:DE T} (h:e.x.men id=false):Ak.frz id l.length (l.flatMap (T.enc E)) e.toE=e.toE:=by
 rw [←Sc e.tag]
 grind [DX.men,R8,Pj,DE.toE]
theorem XJ (id:Ae) (n:Nat) (cs:List C) (l:List Ak):(l.map (Ak.frz id n cs)).filter (fun e=>e.id != id)=(l.filter (fun e=>e.id != id)).map (Ak.frz id n cs):=by
 induction l<;>grind [Ak.frz_id]
theorem filter_toE' (id:Ae) (l:List (DE T)):(l.filter fun e=> !(AG e.id id)).map DE.toE=(l.map DE.toE).filter (fun e=>e.id != id):=by
 induction l<;>grind [DE.toE_id,BJ]
end
theorem Ad.frz_spec {H:Am T} {st st':Ad T} {id:Ae} (h:Av H st) (hk:st.frz id=some st'):(∃ H',Nx H st H' st')∧st'.toSt=st.toSt.freeze id∧st.toSt.okFrz id=true∧st'.pre=st.pre:=by
 unfold Ad.frz at hk
 split at hk
 ·rename_i E l hr
  injection hk with hk;subst hk
  obtain⟨hl,_,_⟩:=Be hr
  obtain⟨H',hN⟩:=Ad.remap_nx (p:=DV.men id) (f:=CY id E l) (q:=DX.men id) (g:=R8 id E l) h Pl (fun {x} hx=>by
   cases x<;>grind [R8,DX.ok,K7,Pg])
  refine⟨⟨H',hN.ext,hN.le,CX hN.ok _⟩,?_,by simp only [St.okFrz,hl],rfl⟩
  have F1: ∀ tm:Tm T, ∀ i,(DV.men id (lk tm i)=true→(CY id E l (lk tm i)).toV =GY id l.length (l.flatMap (T.enc E)) (lk tm i).toV)∧(DV.men id (lk tm i)=false→GY id l.length (l.flatMap (T.enc E)) (lk tm i).toV =(lk tm i).toV):=fun tm i=>
   (by grind [L5,Pk])
  have fm: ∀ l':List V,HV id l.length (l.flatMap (T.enc E)) l'=l'.map (GY id l.length (l.flatMap (T.enc E))):=by
   intro l'
   induction l'<;>grind [HV]
  unfold St.freeze
  rw [hl]
  simp only [Bool.not_true,Bool.false_eq_true,if_false,Ad.toSt,Ad.remap,St.mk.injEq,and_true,fm]
  refine⟨(by grind [VX,DV.men]),?_,(by grind [VY,DV.men])⟩
  rw [filter_toE',Im (F:=Ak.frz id l.length (l.flatMap (T.enc E))) _ (fun e _=>⟨fun _ t=>Sc t,fun hm=>dC hm⟩)]
  exact XJ _ _ _ _
 ·cases hk
def L6 (id:Ae) (t:Nat) (x:DX T):List (DE T)→List (DE T)
 | []=>[]
 | e::r=>match AG e.id id with
   | true=>⟨e.id,t,x⟩::r
   | false=>e::L6 id t x r
def Ad.setX (st:Ad T) (id:Ae) (x:DX T):Ad T:={st with so:=L6 id st.nx x st.so,nx:=st.nx+1}
theorem Pm (id:Ae) (t:Nat) (x:DX T): ∀ l:List (DE T),(L6 id t x l).map DE.id=l.map DE.id
 | []=>rfl
 | e::r=>by
   unfold L6
   split<;>simp [Pm id t x r]
theorem Pn {id:Ae} {t:Nat} {x:DX T} {F:Ak→Ak} (hF: ∀ a:Ak,a.id ≠ id→F a=a): ∀ {l:List (DE T)} {e:DE T},(l.map DE.id).Nodup →e∈l→e.id=id→F e.toE=(⟨id,t,x⟩:DE T).toE →(l.map DE.toE).map F=(L6 id t x l).map DE.toE
 | [],_,_,h,_,_=>by cases h
 | a::r,e,hn,hm,he,hf=>by
   rw [List.map_cons]at hn
   obtain⟨n1,n2⟩:=List.nodup_cons.1 hn
   unfold L6
   split
   ·rename_i hb
    have hb:=Az.1 hb
    have hae:a=e:=by
     grind
    subst hae
    simp only [List.map_cons,hf]
    rw [←hb]
    congr 1
    refine EV fun y hy=>?_
    obtain⟨z,hz,rfl⟩:=List.mem_map.1 hy
    grind [DE.toE_id]
   ·rename_i hb
    have hne:a.id ≠ id:=fun q=>by rw [Az.2 q]at hb;cases hb
    have hm':e∈r:=by
     rcases List.mem_cons.1 hm with q | q
     ·subst q;exact absurd he hne
     ·exact q
    simp only [List.map_cons,Pn hF n2 hm' he hf]
    rw [hF _ (by rw [DE.toE_id];exact hne)]
theorem Ad.setX_nx {H:Am T} {st:Ad T} (h:Av H st) (id:Ae) {x:DX T} (hx:x.ok): ∃ H',Nx H st H' (st.setX id x):=by
 by_cases hid: ∃ e∈st.so,e.id=id
 ·obtain⟨e0,_,he0⟩:=hid
  have he:=B3.setE H st.nx ⟨id,st.nx,x⟩
  refine⟨H.setE st.nx ⟨id,st.nx,x⟩,he,Nat.le_succ _,Bg he (Nat.le_succ _) h.tm,fun f hf=>Bg he (Nat.le_succ _) (h.gh f hf),?_,by simp only [Ad.setX,Pm];exact h.nd⟩
  have key: ∀ l:List (DE T),(∀ e∈l,e.tag<st.nx∧H.e e.tag=e∧e.x.ok)→ ∀ e∈L6 id st.nx x l,e.tag<st.nx+1∧(H.setE st.nx ⟨id,st.nx,x⟩).e e.tag=e∧e.x.ok:=by
   intro l
   induction l with
   | nil=>intro _ e hm;cases hm
   | cons a r ih=>
     intro hl e hm
     unfold L6 at hm
     split at hm
     ·rename_i hb
      have hb:=Az.1 hb
      rcases List.mem_cons.1 hm with rfl | hm
      ·simp_all [Am.setE]
      ·exact Dh he (Nat.le_succ _) hl e (by simp [hm])
     ·rcases List.mem_cons.1 hm with rfl | hm
      ·exact Dh he (Nat.le_succ _) hl e (by simp)
      simp_all
  exact key st.so h.so
 ·have: ∀ l:List (DE T),(∀ e∈l,e.id ≠ id)→L6 id st.nx x l=l:=by
   intro l
   induction l<;>grind [L6,Az]
  have hs:L6 id st.nx x st.so=st.so:=(by grind)
  exact⟨H,B3.refl _ _,Nat.le_succ _,Bg (B3.refl _ _) (Nat.le_succ _) h.tm,fun f hf=>Bg (B3.refl _ _) (Nat.le_succ _) (h.gh f hf),by simp only [Ad.setX,hs];exact Dh (B3.refl _ _) (Nat.le_succ _) h.so,by simp only [Ad.setX,hs];exact h.nd⟩
theorem Ad.setX_toSt {H:Am T} {st:Ad T} (h:Av H st) {id:Ae} {x:DX T} {e:DE T} (hm:e∈st.so) (he:e.id=id) {cs:List C} {q:Bool} (hx:(⟨id,e.toE.row,cs,e.toE.pu&&q⟩:Ak)=(⟨id,st.nx,x⟩:DE T).toE):(st.setX id x).toSt =st.toSt.setCs id cs q:=by
 have:=Pn (t:=st.nx) (x:=x) (F:=fun e=>if e.id==id then⟨e.id,e.row,cs,e.pu&&q⟩else e) (by grind) h.nd hm he (by grind [DE.toE_id])
 simp_all [Ad.toSt,Ad.setX,St.setCs]
end Go.PL
namespace Go.PL
open Go Go.RowKit
variable {T:AN}
def V3:Operand→DV T→DV T
 | .const (.slice none 0 0),_=> .c (.c .nils)
 | _,v=>v
def XK:DV T→DV T
 | .c (.c .nils)=> .c (.c (.sl 0 []))
 | v=>v
def M9 {α:Type} (i:Nat) (x:α):Nat→List α→List α
 | _,[]=>[]
 | j,a::r=>(if i=j then x else a)::M9 i x (j+1) r
theorem V4 {α:Type} {i:Nat} {x:α}: ∀ (l:List α) (j:Nat),j≤i→M9 i x j l=l.set (i - j) x
 | [],_,_=>rfl
 | a::r,j,h=>by
   unfold M9
   by_cases hj:i=j
   ·subst hj
    simp only [if_true,Nat.sub_self,List.set_cons_zero,List.cons.injEq,true_and]
    have: ∀ (r:List α) (k:Nat),i<k→M9 i x k r=r:=by
     intro r
     induction r with
     | nil=>intro _ _;rfl
     | cons b r ih=>intro k hk;rw [M9,if_neg (by omega),ih _ (by omega)]
    grind
   ·rw [if_neg hj,V4 r (j+1) (by omega),show i - j=(i - (j+1))+1 by omega,List.set_cons_succ]
def Ip (E:Nat):List (T.den E)→List (DC T)
 | []=>[]
 | x::l=>TL E x++Ip E l
theorem Na (E:Nat): ∀ l:List (T.den E),Al (Ip E l)=l.flatMap (T.enc E)
 | []=>by simp [Ip,Al]
 | x::l=>by rw [Ip,BG,DY,Na E l,List.flatMap_cons]
theorem Sd (E:Nat): ∀ l:List (T.den E),Bs (Ip E l)
 | []=>by simp [Ip,Bs]
 | x::l=>B9 (HE E x) (Sd E l)
def gN (E:Nat) (x:T.den E) (off:Nat) (cs:List (DC T)):Option (T.den E):=match Nat.ble (off+cs.length) (T.sz E)with
 | true=>bZ false E ((TL E x).take off++(cs++(TL E x).drop (off+cs.length)))
 | false=>none
def XL (P:Program) (t:TypeId) (d:Option Nat) (st:Ad T) (p v:DV T):M (Ad T):=
 match Fd P t with
 | none=> .no
 | some (_,n)=>match p with
   | .c (.c (.ptr id off))=>match FY st id,v.cells with
     | some ds,some cs=>mIf (Nat.beq cs.length n&&Nat.ble (off+n) ds.length) (.ret ((st.setX id (.box (ds.take off++(cs++ds.drop (off+n))))).put d .u))
     | _,_=> .no
   | .c (.rp id N i off)=>match CJ st id,(XK v).cells with
     | some ⟨E,l⟩,some cs=>mIf (Nat.beq N (T.sz E)&&Nat.beq cs.length n) (.opt (Gk l i) fun x=>match gN E x off cs with
       | some x'=> .ret ((st.setX id (.row E (l.set i.toNat x'))).put d .u)
       | none=> .no)
     | _,_=> .no
   | .c (.ap id base m E i off)=>match FY st id,v.cells with
     | some ds,some cs=>match GJ E m (ds.drop base)with
       | some l=>mIf (Nat.beq cs.length n&&Nat.ble (base+m*T.sz E) ds.length) (.opt (Gk l i) fun x=>match gN E x off cs with
         | some x'=> .ret ((st.setX id (.box (ds.take base++(Ip E (M9 i.toNat x' 0 l)++ds.drop (base+m*T.sz E))))).put d .u)
         | none=> .no)
       | none=> .no
     | _,_=> .no
   | _=> .no
def F6 (st:Ad T) (d:Nat) (x:DX T) (v:Ae→DC T):M (Ad T):=match st.new (d::st.pre) x with
 | some s=> .ret (s.put (some d) (.c (v (d::st.pre))))
 | none=> .no
def JJ (P:Program) (t:TypeId):Option (List (DC T)):=
 match P.info? t with
 | some i=>match i.zero with
   | some z=>FX z.cells.toList
   | none=>none
 | none=>none
def Po:DC T→DC T
 | .c .nils => .c (.sl 0 [])
 | c=>c
def L7:DV T→DV T
 | .c x=> .c (Po x)
 | .agg cs=> .agg (cs.map Po)
 | v=>v
def Iq (P:Program) (st:Ad T) (d:Nat) (t:TypeId) (len:Nat) (ps:List (Nat×Operand)):M (Ad T):=
 match BN P t,Eu st [] ps with
 | some (E,n,_),some vs=>match JJ P E with
   | some z=>match M8 (fun i=>some (i*n,n)) ((List.replicate len z).flatMap id) (vs.map fun x=>(x.1,L7 x.2))with
     | some cs=>match GJ E len cs with
       | some l=>mIf (Nat.beq n (T.sz E)&&(Nat.beq z.length n&&(Nat.blt 0 n&&(Nat.ble (len*n) (2 ^ 24)&&Nat.beq cs.length (len*n))))) (F6 st d (.row E l) fun i=> .c (.osl i))
       | none=> .no
     | none=> .no
   | none=> .no
 | _,_=> .no
def JK (P:Program) (st:Ad T) (d:Nat) (t:TypeId) (l c:Int):M (Ad T):=
 match BN P t with
 | some (E,n,by')=>match JJ P E with
   | some z=>match bZ false E z with
     | some x=>mIf (Nat.beq n (T.sz E)&&(Nat.beq z.length n&&Nat.blt 0 n)) (.opt (Fb (0≤l∧l≤c∧c*by'≤140737488355328∧c≤maxLen)) fun _=>F6 st d (.row E (List.replicate l.toNat x)) fun i=> .c (.osl i))
     | none=> .no
   | none=> .no
 | none=> .no
def Ir:DC T→Option Ae
 | .c (.osl id)=>some id
 | _=>none
theorem Dt {c:DC T} {id:Ae} (h:Ir c=some id):c= .c (.osl id):=by
 unfold Ir at h
 grind
def kG (st:Ad T) (E:Nat):DV T→Option (List (T.den E))
 | .c x=>match Ir x with
   | some id=>match CJ st id with
     | some ⟨E',l⟩=>Fi false (.lst E) (.k (.lst E') l)
     | none=>none
   | none=>Fi false (.lst E) x
 | _=>none
def TO (P:Program) (st:Ad T) (d:Nat) (t:TypeId) (u x:DV T):M (Ad T):=
 match u,BN P t with
 | .c (.c (.osl id)),some (E',n,by')=>match CJ st id with
   | some ⟨E,l⟩=>match kG st E x with
     | some m=>mIf (Nat.beq E' E&&(Nat.beq n (T.sz E)&&Nat.blt 0 n)) (.opt (U3 by' l m) fun r=>match st.new id (.row E r)with
       | some s=> .ret (s.put (some d) (.c (.c (.osl id))))
       | none=> .no)
     | none=> .no
   | none=> .no
 | _,_=> .no
def aI (P:Program) (st:Ad T) (o:Oper):M (Ad T):=
 match o.op with
 | .store t x y=>match st.arg [] x,st.arg [] y with
   | some p,some v=>XL P t o.dst st p (V3 y v)
   | _,_=> .no
 | op=>match o.dst with
   | none=> .no
   | some d=>match op with
     | .alloc t=>match Pb P t with
       | some cs=>F6 st d (.box cs) fun i=> .c (.ptr i 0)
       | none=> .no
     | .box _ x=>match st.arg [] x with
       | some v=>match v.cells with
         | some cs=>F6 st d (.box cs) fun i=> .c (.ptr i 0)
         | none=> .no
       | none=> .no
     | .assign (.const (.slice none 0 0))=>match BZ P o.type with
       | some (E,n)=>mIf (Nat.beq n (T.sz E)) (F6 st d (.row E []) fun i=> .c (.osl i))
       | none=> .no
     | .buildSlice t len ps=>Iq P st d t len ps.toList
     | .makeSlice t l c=>match st.arg [] l,st.arg [] c with
       | some (.c (.k (.int _) l)),some (.c (.k (.int _) c))=>JK P st d t l c
       | _,_=> .no
     | .call c=>match c.callee,c.args.toList,c.argTypes.toList with
       | .builtin .append,[u,x],[t,t']=>match st.arg [] u,st.arg [] x with
         | some a,some b=>mIf (Nat.beq t t') (TO P st d t a b)
         | _,_=> .no
       | _,_,_=> .no
     | _=> .no
def Ef (H:Am T) (P:Program) (st:Ad T) (o:Oper) (st':Ad T):Prop:=
 (∃ H',Nx H st H' st')∧(ef P st.toSt o).1∧Bk (ef P st.toSt o).2 st'.toSt∧st'.pre=st.pre
section
variable {H:Am T} {P:Program} {st:Ad T}
theorem Ad.put_spec {H:Am T} {st s:Ad T} {H1:Am T} (h:Nx H st H1 s) (d:Option Nat) {v:DV T} (hv:v.ok H1 s.nx): ∃ H',Nx H st H' (s.put d v):=by
 obtain⟨H2,h2⟩:=Ad.put_nx h.ok d hv
 exact⟨H2,h.trans h2⟩
theorem AB (s:Ad T) (d:Option Nat) (v:DV T):(s.put d v).pre =s.pre:=by cases d<;>rfl
theorem EW {d:Nat} {x:DX T} {v:Ae→DC T} (hw:Av H st) (hx:x.ok) (hv: ∀ i,(v i).ok):
 Yl (F6 st d x v) (fun st'=>(∃ H',Nx H st H' st')∧Bk ((st.toSt.new (⟨d::st.pre,0,x⟩:DE T).toE).put (some d) (.c (v (d::st.pre)).toC)) st'.toSt∧st'.pre=st.pre):=by
 unfold F6
 split
 ·rename_i s hs
  obtain⟨⟨H',hN⟩,h2,h3⟩:=Ad.new_spec hw hx hs
  refine Yl.ret ⟨Ad.put_spec hN _ (by grind [DV.ok]),?_,by rw [AB];exact h3⟩
  rw [Ad.put_toSt]
  exact h2.put _ _
 ·exact Yl.no
theorem V5 {v:DV T} {id:Ae} {off:Nat} {e:Ak} (he:st.toSt.look id=some e) (hr:e.row.isSome=true):NF st.toSt (.c (.ptr id off)) v.toV=(XK v).toV :=by
 unfold XK
 split
 ·grind [DV.toV,DC.toC,NF]
 ·rename_i hne
  unfold NF
  split
  ·rename_i hv
   exfalso
   cases v with
   | c x=>
     cases x with
     | c y=>
       simp only [DV.toV,DC.toC,V.c.injEq]at hv
       grind
     | k kd x=>cases kd<;>simp [DV.toV,DC.toC,AQ]at hv
     | clo b f cs=>cases b<;>simp [DV.toV,DC.toC]at hv
     | _=>simp [DV.toV,DC.toC]at hv
   | _=>simp [DV.toV]at hv
  ·rfl
theorem V6 {v:V} {id:Ae} {off:Nat} {e:Ak} (he:st.toSt.look id=some e) (hr:e.row=none):NF st.toSt (.c (.ptr id off)) v=v:=by
 grind [NF]
theorem Se {E:Nat} {x x':T.den E} {off:Nat} {cs:List (DC T)} (h:gN E x off cs=some x'):off+cs.length≤T.sz E∧(T.enc E x).take off++(Al cs++(T.enc E x).drop (off+(Al cs).length))=T.enc E x':=by
 unfold gN at h
 split at h
 ·rename_i hb
  refine⟨by simp_all,?_⟩
  rw [←(EQ h).2 rfl,BG,BG,Fu,DH,DY,Ax]
 ·cases h
theorem XM {l:List C} {a b c:List C} (h:a++(b++c)=l) (hl:Aj l=true):Aj b=true:=by
 subst h
 simp_all [Bb]
theorem aJ (hw:Av H st) {t:TypeId} {d:Option Nat} {p v:DV T} (hv:v.ok H st.nx):
 Yl (XL P t d st p v) (fun st'=>(∃ H',Nx H st H' st')∧(Em P st.toSt t p.toV (NF st.toSt p.toV v.toV)).1∧(Em P st.toSt t p.toV (NF st.toSt p.toV v.toV)).2.put d .undef =st'.toSt∧st'.pre=st.pre):=by
 unfold XL
 split
 ·exact Yl.no
 ·rename_i ag n ht
  split
  ·rename_i id off
   split
   ·rename_i ds cs hb hc
    refine Yl.mIf fun hg=>Yl.ret ?_
    simp only [Bool.and_eq_true,Nat.beq_eq,Nat.ble_eq]at hg
    obtain⟨hl,_,e,h1,h2,h3⟩:=Et hb
    obtain⟨c1,c2⟩:=DV.cells_spec hc
    have hds:=K2 hw hb
    have hok:(DX.box (ds.take off++(cs++ds.drop (off+n)))).ok :=B9 (LY hds _) (B9 (c2 hv) (LZ hds _))
    obtain⟨H1,hN⟩:=Ad.setX_nx hw id hok
    refine⟨Ad.put_spec hN _ (by simp only [DV.ok]),?_⟩
    simp only [DV.toV,DC.toC]
    rw [V6 hl rfl]
    simp only [Em,c1,ht,hl]
    refine⟨(by grind [Ax]),?_,by rw [AB];rfl⟩
    rw [Ad.put_toSt,Ad.setX_toSt hw h1 h2 (cs:=(Al ds).take off++Al cs++(Al ds).drop (off+(Al cs).length)) (q:=Aj (Al cs))]
    ·simp only [DV.toV]
    ·rw [DE.toE_box h3]
     simp only [DE.toE,Ak.mk.injEq,Bool.false_and,and_true,true_and]
     grind [BG,Fu,DH,Ax]
   ·exact Yl.no
  ·rename_i id N i off
   split
   ·rename_i E l cs hr hc
    refine Yl.mIf fun hg=>Yl.opt fun x hx=>?_
    simp only [Bool.and_eq_true,Nat.beq_eq]at hg
    obtain⟨hN,hcs⟩:=hg
    subst hN
    split
    ·rename_i x' hp
     obtain⟨p1,p2⟩:=Se hp
     obtain⟨hl,_,e,h1,h2,h3⟩:=Be hr
     obtain⟨c1,c2⟩:=DV.cells_spec hc
     obtain⟨s1,s2⟩:=cK (l:=l) (l':=l.set i.toNat x') (i:=i) (x:=x) (x':=x') (e:=T.enc E) (N:=T.sz E) (o:=off) (base:=0) (cs:=Al cs) (pre:=[]) (post:=[]) (off:=i.toNat*T.sz E+off) (c0:=l.flatMap (T.enc E)) (c1:=(l.set i.toNat x').flatMap (T.enc E)) (by simp) rfl (by simp) rfl hx (fun y=>AA E y) (by omega) (by rw [Ax];exact p1) p2
     obtain⟨H1,hN⟩:=Ad.setX_nx hw id (x:= .row E (l.set i.toNat x')) trivial
     refine Yl.ret ⟨Ad.put_spec hN _ (by simp only [DV.ok]),?_⟩
     simp only [DV.toV,DC.toC]
     rw [V5 hl rfl]
     simp only [Em,c1,ht,hl]
     refine⟨(by grind [Ax]),?_,by rw [AB];rfl⟩
     rw [s2,Ad.put_toSt,Ad.setX_toSt hw h1 h2 (cs:=(l.set i.toNat x').flatMap (T.enc E)) (q:=Aj (Al cs))]
     ·simp only [DV.toV]
     grind [XM,O3,DE.toE]
    ·exact Yl.no
   ·exact Yl.no
  ·rename_i id base m E i off
   split
   ·rename_i ds cs hb hc
    split
    ·rename_i l hdr
     refine Yl.mIf fun hg=>Yl.opt fun x hx=>?_
     simp only [Bool.and_eq_true,Nat.beq_eq,Nat.ble_eq]at hg
     split
     ·rename_i x' hp
      obtain⟨p1,p2⟩:=Se hp
      obtain⟨hl,_,e,h1,h2,h3⟩:=Et hb
      obtain⟨c1,c2⟩:=DV.cells_spec hc
      obtain⟨hlen,r,hr⟩:=CU hdr
      rw [DH]at hr
      have hfl:(l.flatMap (T.enc E)).length =m*T.sz E:=by grind [BO,AA]
      have hpost:r=(Al ds).drop (base+m*T.sz E):=by
       grind [List.drop_drop,List.drop_left]
      have hs:M9 i.toNat x' 0 l=l.set i.toNat x':=by simp_all [V4]
      have hle:base≤(Al ds).length :=by rw [Ax];omega
      obtain⟨s1,s2⟩:=cK (l:=l) (l':=l.set i.toNat x') (i:=i) (x:=x) (x':=x') (e:=T.enc E) (N:=T.sz E) (o:=off) (base:=base) (cs:=Al cs) (pre:=(Al ds).take base) (post:=r) (off:=base+i.toNat*T.sz E+off) (c0:=Al ds) (c1:=(Al ds).take base++((l.set i.toNat x').flatMap (T.enc E)++r))
       (by grind [List.take_append_drop]) (by grind) rfl rfl hx (fun y=>AA E y) (by omega) (by rw [Ax];exact p1) p2
      have hds:=K2 hw hb
      have hok:(DX.box (ds.take base++(Ip E (M9 i.toNat x' 0 l)++ds.drop (base+m*T.sz E)))).ok :=B9 (LY hds _) (B9 (Sd _ _) (LZ hds _))
      obtain⟨H1,hN⟩:=Ad.setX_nx hw id hok
      refine Yl.ret ⟨Ad.put_spec hN _ (by simp only [DV.ok]),?_⟩
      simp only [DV.toV,DC.toC]
      rw [V6 hl rfl]
      simp only [Em,c1,ht,hl]
      refine⟨(by grind [Ax]),?_,by rw [AB];rfl⟩
      rw [s2,Ad.put_toSt,Ad.setX_toSt hw h1 h2 (cs:=(Al ds).take base++((l.set i.toNat x').flatMap (T.enc E)++r)) (q:=Aj (Al cs))]
      ·simp only [DV.toV]
      ·rw [DE.toE_box h3]
       simp only [DE.toE,Ak.mk.injEq,Bool.false_and,and_true,true_and]
       grind [BG,Fu,DH,Na]
     ·exact Yl.no
    ·exact Yl.no
   ·exact Yl.no
  ·exact Yl.no
end
end Go.PL
namespace Go.PL
open Go Go.RowKit
variable {T:AN}
section
variable {H:Am T} {P:Program} {st:Ad T}
theorem Ev (hw:Av H st) {x:Operand} {v:DV T} (h:st.arg [] x=some v):v.ok H st.nx∧(st.toSt.arg true x).1∧(st.toSt.arg true x).2=v.toV:=
 Ad.arg_spec (key:=[]) hw (fun _ hl=>by cases hl) h rfl
theorem EX {t:TypeId} {cs:List (DC T)} (h:JJ P t=some cs):HU P t=some (Al cs)∧Bs cs:=by
 grind [JJ,HU,Ij]
theorem K8 {α:Type} (f:α→List (DC T)): ∀ l:List α,Al (l.flatMap f)=l.flatMap (fun x=>Al (f x))
 | []=>by simp [Al]
 | a::l=>by rw [List.flatMap_cons,BG,K8 f l,List.flatMap_cons]
theorem JL (z:List (DC T)) (hz:0<z.length) (n:Nat):Al ((List.replicate n z).flatMap id)=Bj (Al z) n:=by
 rw [K8,RX (fun x:List (DC T)=>Al x) z rfl (by rw [Ax];exact hz)]
 rfl
theorem Pp (c:DC T):(Po c).toC =Ed c.toC:=by
 unfold Po
 split
 ·rfl
 ·rename_i hne
  cases c with
  | c x=>
    cases x with
    | nils=>grind
    | _=>rfl
  | k kd x=>cases kd<;>rfl
  | clo b f cs=>cases b<;>simp [DC.toC,Ed]
  | _=>simp [DC.toC,Ed]
theorem XN (v:DV T):(L7 v).toV =v.toV.weak:=by
 cases v<;>simp_all [L7,DV.toV,V.weak,Pp,BB]
theorem Pq (vs:List (Nat×DV T)):VU (vs.map fun x=>(x.1,L7 x.2))=(VU vs).map Ky:=by
 simp_all [VU,Ky,XN]
theorem Ps (hw:Av H st) {d:Nat} {t:TypeId} {len:Nat} {ps:List (Nat×Operand)}:
 Yl (Iq P st d t len ps) (fun st'=>(∃ H',Nx H st H' st')∧(AI P st.toSt d t len ps).1∧Bk (AI P st.toSt d t len ps).2 st'.toSt∧st'.pre=st.pre):=by
 unfold Iq
 split
 ·rename_i E n by' vs hs hp
  split
  ·rename_i z hz
   split
   ·rename_i cs hf
    split
    ·rename_i l hl
     refine Yl.mIf fun hg=>(EW hw (x:= .row E l) (by exact trivial) (fun _=>by simp only [DC.ok])).mono fun st' h=>?_
     simp only [Bool.and_eq_true,Nat.beq_eq,Nat.blt_eq,Nat.ble_eq]at hg
     obtain⟨g1,g2,g3,g4,g5⟩:=hg
     subst g1
     obtain⟨h1,h2,h3⟩:=h
     obtain⟨p1,p2,p3⟩:=DI (key:=[]) hw (fun _ hl=>by cases hl) rfl hp
     obtain⟨z1,z2⟩:=EX hz
     obtain⟨f1,_⟩:=F4 hf
     rw [JL z (by omega),Pq]at f1
     obtain⟨hlen,r,hr⟩:=CU hl
     have hrn:r=[]:=by
      have:=congrArg List.length hr
      grind [Ax,BO,AA,List.length_eq_zero_iff]
     subst hrn
     rw [List.append_nil]at hr
     refine⟨h1,?_⟩
     change (st.toSt.parts true ps).1 at p2
     change (st.toSt.parts true ps).2=VU vs at p3
     simp only [AI,hs,z1,p3,f1]
     refine⟨(by simp_all [Ax]),?_,h3⟩
     rw [hr,az]
     simp only [DE.toE,hlen,DC.toC]at h2
     exact h2
    ·exact Yl.no
   ·exact Yl.no
  ·exact Yl.no
 ·exact Yl.no
theorem QM (hw:Av H st) {d:Nat} {t:TypeId} {l c:Int} {k k':IntKind}:
 Yl (JK P st d t l c) (fun st'=>(∃ H',Nx H st H' st')∧(Gu P st.toSt d t (.c (.int k l)) (.c (.int k' c))).1∧Bk (Gu P st.toSt d t (.c (.int k l)) (.c (.int k' c))).2 st'.toSt∧st'.pre=st.pre):=by
 unfold JK
 split
 ·rename_i E n by' hs
  split
  ·rename_i z hz
   split
   ·rename_i x hx
    refine Yl.mIf fun hg=>Yl.opt fun u hu=>(EW hw (x:= .row E (List.replicate l.toNat x)) (by exact trivial) (fun _=>by simp only [DC.ok])).mono fun st' h=>?_
    simp only [Bool.and_eq_true,Nat.beq_eq,Nat.blt_eq]at hg
    obtain⟨g1,g2,g3⟩:=hg
    subst g1
    obtain⟨h1,h2,h3⟩:=h
    obtain⟨z1,z2⟩:=EX hz
    obtain⟨n1,n2,n3,n4⟩:=BP hu
    refine⟨h1,?_⟩
    simp only [Gu,hs,z1]
    refine⟨(by simp_all [Ax]),?_,h3⟩
    have hzx:=(EQ hx).2 rfl
    have:=RX (T.enc E) x hzx (by rw [Ax];omega) l.toNat
    rw [this]
    simp only [DE.toE,List.length_replicate,DC.toC]at h2
    exact h2
   ·exact Yl.no
  ·exact Yl.no
 ·exact Yl.no
theorem aK {E:Nat} {x:DV T} {m:List (T.den E)} (h:kG st E x=some m):Kz st.toSt (T.sz E) x.toV=some (m.length,m.flatMap (T.enc E),true):=by
 have hl: ∀ {E':Nat} {l:List (T.den E')} {m:List (T.den E)},Fi (T:=T) false (.lst E) (.k (.lst E') l)=some m→(C.sl l.length (l.flatMap (T.enc E'))=C.sl m.length (m.flatMap (T.enc E)))∧T.sz E'=T.sz E∧l.length=m.length:=by
  intro E' l m hc
  unfold Fi at hc
  simp only at hc
  split at hc
  all_goals grind
 unfold kG at h
 split at h
 ·rename_i y
  split at h
  ·rename_i id ho
   have:=Dt ho
   subst this
   split at h
   ·rename_i E' l hr
    obtain⟨a,b,c⟩:=hl h
    injection a with a1 a2
    simp only [DV.toV,DC.toC,Kz,(Be hr).1,b,if_true]
    rw [a1,a2]
   ·cases h
  ·have:=(BS h).2 rfl
   simp only [AQ]at this
   simp only [DV.toV,this,Kz]
   rw [if_pos (BO (fun y=>AA E y) m)]
 ·cases h
theorem XO (hw:Av H st) {d:Nat} {t:TypeId} {u x:DV T}:
 Yl (TO P st d t u x) (fun st'=>(∃ H',Nx H st H' st')∧(DT P st.toSt d t u.toV x.toV).1∧Bk (DT P st.toSt d t u.toV x.toV).2 st'.toSt∧st'.pre=st.pre):=by
 unfold TO
 split
 ·rename_i id E' n by' hs
  split
  ·rename_i E l hr
   split
   ·rename_i m hm
    refine Yl.mIf fun hg=>Yl.opt fun r hra=>?_
    simp only [Bool.and_eq_true,Nat.beq_eq,Nat.blt_eq]at hg
    obtain⟨g1,g2,g3⟩:=hg
    subst g1 g2
    split
    ·rename_i s hn
     obtain⟨⟨H',hN⟩,h2,h3⟩:=Ad.new_spec hw (x:= .row E' r) trivial hn
     refine Yl.ret ⟨Ad.put_spec hN _ (by simp only [DV.ok,DC.ok]),?_⟩
     have hb:=KS hra
     have hx:=Vz hra
     simp only [DV.toV,DC.toC,DT,hs,(Be hr).1,aK hm,true_and]
     refine⟨⟨g3,hb.1,hb.2⟩,?_,by rw [AB];exact h3⟩
     rw [Ad.put_toSt]
     simp only [DE.toE,hx,List.length_append,List.flatMap_append]at h2
     simp only [DV.toV,DC.toC,Bool.and_self]
     exact h2.put _ _
    ·exact Yl.no
   ·exact Yl.no
  ·exact Yl.no
 ·exact Yl.no
theorem NX (hw:Av H st) (o:Oper):Yl (aI P st o) (Ef H P st o):=by
 have A: ∀ {x:Operand} {v:DV T},st.arg [] x=some v→v.ok H st.nx∧(st.toSt.arg true x).1∧(st.toSt.arg true x).2=v.toV:=fun h=>Ev hw h
 obtain⟨dst,op,ty,pos,aft,gd⟩:=o
 unfold aI
 simp only
 split
 ·rename_i t x y
  split
  ·rename_i p v hp hv
   obtain⟨a1,a2,a3⟩:=A hp
   obtain⟨b1,b2,b3⟩:=A hv
   have e:(V3 y v).toV =Xd y v.toV:=by
    unfold V3 Xd
    grind [DV.toV,DC.toC]
   have hok:(V3 y v).ok H st.nx:=by
    unfold V3
    grind [DV.ok,DC.ok]
   refine(aJ hw hok).mono fun st' h=>?_
   obtain⟨h1,h2,h3,h4⟩:=h
   refine⟨h1,?_,?_,h4⟩
   all_goals grind [PL.ef,Bk.refl]
  ·exact Yl.no
 ·rename_i hns
  split
  ·exact Yl.no
  ·rename_i d
   split
   ·rename_i t
    split
    ·rename_i cs hz
     obtain⟨z1,z2⟩:=Il hz
     refine(EW hw (x:= .box cs) z2 (fun _=>by simp only [DC.ok])).mono fun st' h=>?_
     obtain⟨h1,h2,h3⟩:=h
     refine⟨h1,?_,?_,h3⟩
     ·simp only [PL.ef,z1]
     ·simp only [PL.ef,z1];simp only [DE.toE,DC.toC]at h2;exact h2
    ·exact Yl.no
   ·rename_i t x
    split
    ·rename_i v hv
     split
     ·rename_i cs hc
      obtain⟨b1,b2,b3⟩:=A hv
      obtain⟨c1,c2⟩:=DV.cells_spec hc
      refine(EW hw (x:= .box cs) (c2 b1) (fun _=>by simp only [DC.ok])).mono fun st' h=>?_
      obtain⟨h1,h2,h3⟩:=h
      refine⟨h1,?_,?_,h3⟩
      ·simp_all [PL.ef]
      ·simp only [PL.ef,b3,c1];simp only [DE.toE,DC.toC]at h2;exact h2
     ·exact Yl.no
    ·exact Yl.no
   ·split
    ·rename_i E n hs
     refine Yl.mIf fun hg=>(EW hw (x:= .row E []) (by exact trivial) (fun _=>by simp only [DC.ok])).mono fun st' h=>?_
     have hg:=Nat.eq_of_beq_eq_true hg
     subst hg
     obtain⟨h1,h2,h3⟩:=h
     refine⟨h1,?_,?_,h3⟩
     ·simp only [PL.ef,hs]
     ·simp only [PL.ef,hs];simp only [DE.toE,DC.toC,List.length_nil,List.flatMap_nil]at h2;exact h2
    ·exact Yl.no
   ·rename_i t len ps
    refine(Ps hw).mono fun st' h=>?_
    obtain⟨h1,h2,h3,h4⟩:=h
    exact⟨h1,by simpa only [PL.ef] using h2,by simpa only [PL.ef] using h3,h4⟩
   ·rename_i t l c
    split
    ·rename_i k l' k' c' hl hc
     obtain⟨a1,a2,a3⟩:=A hl
     obtain⟨b1,b2,b3⟩:=A hc
     simp only [DV.toV,DC.toC,AQ]at a3 b3
     refine(QM hw (k:=k) (k':=k')).mono fun st' h=>?_
     obtain⟨h1,h2,h3,h4⟩:=h
     refine⟨h1,?_,?_,h4⟩
     all_goals grind [PL.ef]
    ·exact Yl.no
   ·rename_i c
    split
    ·rename_i u x t t' hcal hargs htys
     split
     ·rename_i a b ha hb
      obtain⟨a1,a2,a3⟩:=A ha
      obtain⟨b1,b2,b3⟩:=A hb
      refine Yl.mIf fun hg=>(XO hw).mono fun st' h=>?_
      have hg:=Nat.eq_of_beq_eq_true hg
      obtain⟨h1,h2,h3,h4⟩:=h
      refine⟨h1,?_,?_,h4⟩
      all_goals grind [PL.ef]
     ·exact Yl.no
    ·exact Yl.no
   ·exact Yl.no
end
end Go.PL
namespace Go.PL
open Go Go.RowKit
structure OE where
 dp:Bool
 E:TypeId
 n:Nat
 len:Nat
 cs:List C
def OE.ent (o:OE) (id:Ae):Ak:=⟨id,some (o.E,o.n,o.len),o.cs,true⟩
def Cs:List OE→List Ae→List Ak
 | o::os,i::is=>o.ent i::Cs os is
 | _,_=>[]
def H6:List OE→List Ae→Bool
 | [],[]=>true
 | o::os,i::is=>(Db i==o.dp&& !BX i)&&H6 os is
 | _,_=>false
inductive PC where
 | c (x:C)
 | o (j:Nat)
def PC.toC (ids:List Ae):PC→C
 | .c x=>x
 | .o j=> .osl (ids.getD j [])
inductive PP where
 | c (x:PC)
 | a (cs:List PC)
def PP.toV (ids:List Ae):PP→V
 | .c x=> .c (x.toC ids)
 | .a cs=> .agg (cs.map (PC.toC ids))
def Pt (ids:List Ae):List PP→V
 | [p]=>p.toV ids
 | ps=> .tup (ps.map (PP.toV ids))
def PC.ok (m:Nat):PC→Bool
 | .c x=>x.pure
 | .o j=>Nat.blt j m
def PP.ok (m:Nat):PP→Bool
 | .c x=>x.ok m
 | .a cs=>cs.all (PC.ok m)
structure XP (P:Program) (I:World→Prop) (f:FuncId) (args:List V) (outs:List OE) (ps:List PP):Prop where
 ent:ent P f=true
 pok:ps.all (PP.ok outs.length)=true
 run: ∀ (w:World) (vs:Array Value) (av:Nat→Prop),I w→(∀ b,av b→b<w.heap.size)→An w (im av) args vs.toList→
  Calls P f vs w (fun e w'=> ∃ v ids G',e= .returned v∧H6 outs ids=true∧ids.Nodup∧Ab w' G' (Pt ids ps) v∧
   (∀ e∈Cs outs ids,AJ w' G' e∧AY w' G' e∧Aj e.cs=true)∧(∀ i j b,G'.blk i=some b→G'.blk j=some b→i=j)∧
   (∀ i b,G'.blk i=some b→w.heap.size≤b∧b<w'.heap.size)∧(∀ b,G'.wr b↔av b∨ ∃ i,G'.blk i=some b)∧Below w.heap.size w w')
def pS (o i:Ae):Ae:=match i with
 | _::k::_=>A9 k o
 | _=>o
def GK:List Ae→List Ae→Ae→Option Ae
 | n::ns,o::os,i=>if i=n then some o else if CI n i=true then some (pS o i)else GK ns os i
 | _,_,_=>none
def GR (ns:List Ae) (i:Ae):Bool:=ns.any fun n=>i==n||CI n i
theorem kH (o n:Ae) (k:Nat):pS o (A9 k n)=A9 k o:=rfl
theorem aL {ns os:List Ae} {i:Ae} (hl:ns.length=os.length) (h:GR ns i=false):GK ns os i=none:=by
 induction ns generalizing os with
 | nil=>rfl
 | cons n ns ih=>
   cases os<;>simp_all [GR,GK]
theorem V7 {ns os:List Ae} {i a:Ae} (h:GK ns os i=some a): ∃ (j:Nat) (n o:Ae),ns[j]? =some n∧os[j]? =some o∧(i=n∧a=o∨ ∃ k,i=A9 k n∧a=A9 k o):=by
 induction ns generalizing os with
 | nil=>simp [GK]at h
 | cons n ns ih=>
   cases os with
   | nil=>simp [GK]at h
   | cons o os=>
     simp only [GK]at h
     split at h
     ·rename_i he
      injection h with h
      exact⟨0,n,o,rfl,rfl, .inl ⟨he,h.symm⟩⟩
     ·split at h
      ·rename_i he
       obtain⟨k,rfl⟩:=YP he
       injection h with h
       exact⟨0,n,o,rfl,rfl, .inr ⟨k,rfl,h.symm⟩⟩
      ·obtain⟨j,n',o',h1,h2,h3⟩:=ih h
       exact⟨j+1,n',o',h1,h2,h3⟩
theorem gO {ns os:List Ae} {j:Nat} {n o:Ae} (hn:ns.Nodup) (hmk: ∀ n∈ns,BX n=false) (h1:ns[j]? =some n) (h2:os[j]? =some o):GK ns os n=some o∧ ∀ k,GK ns os (A9 k n)=some (A9 k o):=by
 induction ns generalizing os j with
 | nil=>simp at h1
 | cons m ns ih=>
   cases os with
   | nil=>simp at h2
   | cons q os=>
     simp only [List.nodup_cons]at hn
     cases j with
     | zero=>
       simp only [List.getElem?_cons_zero,Option.some.injEq]at h1 h2
       subst h1 h2
       refine⟨by simp [GK],fun k=>?_⟩
       simp only [GK]
       rw [if_neg (fun e=>by have:=hmk m (by simp);rw [←e]at this;cases this),if_pos (by rw [Fa];simp),kH]
     | succ j=>
       simp only [List.getElem?_cons_succ]at h1 h2
       have hm:n∈ns:=(by grind)
       have hne:n ≠ m:=(by grind)
       obtain⟨a,b⟩:=ih hn.2 (fun x hx=>hmk x (by simp [hx])) h1 h2
       have hmn:=hmk n (by simp [hm])
       refine⟨?_,fun k=>?_⟩
       ·simp only [GK]
        rw [if_neg hne,if_neg (fun e=>by obtain⟨k,rfl⟩:=YP e;cases hmn)]
        exact a
       ·simp only [GK]
        rw [if_neg (fun e=>by have:=hmk m (by simp);rw [←e]at this;cases this),if_neg (fun e=>by rw [Fa]at e;exact hne (by simpa using e))]
        exact b k
theorem kJ {α:Type} {l:List α} (h:l.Nodup) {i j:Nat} {x:α} (hi:l[i]? =some x) (hj:l[j]? =some x):i=j:=by
 grind [List.pairwise_iff_getElem]
theorem dD {ns os:List Ae} {i j a:Ae} (hn:ns.Nodup) (ho:os.Nodup) (hmo: ∀ o∈os,BX o=false) (h1:GK ns os i=some a) (h2:GK ns os j=some a):i=j:=by
 obtain⟨p,n,o,a1,a2,a3⟩:=V7 h1
 obtain⟨q,n',o',b1,b2,b3⟩:=V7 h2
 have key:o=o'→p=q:=(by grind [kJ])
 have m1:=hmo o (List.mem_of_getElem? a2)
 have m2:=hmo o' (List.mem_of_getElem? b2)
 rcases a3 with ⟨rfl,rfl⟩ | ⟨k,rfl,rfl⟩<;>rcases b3 with ⟨rfl,e⟩ | ⟨k',rfl,e⟩
 ·grind
 ·rw [e]at m1;cases m1
 ·rw [←e]at m2;cases m2
 grind [J4]
theorem G8: ∀ {outs:List OE} {ids:List Ae},H6 outs ids=true→ids.length=outs.length∧(∀ i∈ids,BX i=false)∧ ∀ (j:Nat) (o:OE) (i:Ae),outs[j]? =some o→ids[j]? =some i→Db i=o.dp
 | [],[],_=>(by grind)
 | [],_::_,h=>by simp [H6]at h
 | _::_,[],h=>by simp [H6]at h
 | o::os,i::is,h=>by
   simp only [H6,Bool.and_eq_true,beq_iff_eq,Bool.not_eq_true']at h
   obtain⟨a,b,c⟩:=G8 h.2
   grind
theorem Sf: ∀ {outs:List OE} {ids:List Ae} {e:Ak},e∈Cs outs ids→ ∃ (j:Nat) (o:OE) (i:Ae),outs[j]? =some o∧ids[j]? =some i∧e=o.ent i
 | [],_,_,h=>by simp [Cs]at h
 | _::_,[],_,h=>by simp [Cs]at h
 | o::os,i::is,e,h=>by
   simp only [Cs,List.mem_cons]at h
   rcases h with rfl | h
   ·exact⟨0,o,i,rfl,rfl,rfl⟩
   ·obtain⟨j,o',i',a,b,c⟩:=Sf h
    exact⟨j+1,o',i',by grind,by grind,c⟩
theorem V8: ∀ {outs:List OE} {ids:List Ae} {j:Nat} {o:OE} {i:Ae},outs[j]? =some o→ids[j]? =some i→o.ent i∈Cs outs ids
 | [],_,_,_,_,h,_=>by simp at h
 | _::_,[],_,_,_,_,h=>by simp at h
 | o::os,i::is,0,o',i',h1,h2=>by
   grind [Cs]
 | o::os,i::is,j+1,o',i',h1,h2=>by
   simp only [Cs,List.mem_cons]
   exact .inr (V8 (by simpa using h1) (by simpa using h2))
theorem Sh: ∀ {outs:List OE} {ids:List Ae},ids.length=outs.length→(Cs outs ids).map (·.id)=ids
 | [],[],_=>rfl
 | [],_::_,h=>by simp at h
 | _::_,[],h=>by simp at h
 | o::os,i::is,h=>by simp only [Cs,List.map_cons,OE.ent,Sh (outs:=os) (ids:=is) (by simpa using h)]
theorem BE.sub {G G':Au} {w:World} (h: ∀ b,b<w.heap.size→G'.wr b→G.wr b):BE G G' w w:=⟨Nat.le_refl _,fun _ _ _=>rfl,h,fun _ _ _ _=>Bt.same rfl⟩
theorem jB {w:World} {G G':Au} {ids ns:List Ae} {m:Nat} (hk:BE G G' w w) (hl:ids.length=m) (ho: ∀ (j:Nat) (i n:Ae),ids[j]? =some i→ns[j]? =some n→G'.own n=G.own i) (hl2:ns.length=m) {p:PC} (hp:p.ok m=true) {v:Value} (h:Ac w G (p.toC ids) v):Ac w G' (p.toC ns) v:=by
 cases p with
 | c x=>exact Ac.mono hk x v (fun i hi=>absurd (show x.men i=true from hi) (by rw [GT i x hp];simp)) h
 | o j=>
   grind [PC.ok,Nat.blt_eq,PC.toC,Ac]
theorem jC {w:World} {G G':Au} {ids ns:List Ae} {m:Nat} (hk:BE G G' w w) (hl:ids.length=m) (ho: ∀ (j:Nat) (i n:Ae),ids[j]? =some i→ns[j]? =some n→G'.own n=G.own i) (hl2:ns.length=m): ∀ {ps:List PC} {vs:List Value},ps.all (PC.ok m)=true→Ag w G (ps.map (PC.toC ids)) vs→Ag w G' (ps.map (PC.toC ns)) vs
 | [],[],_,_=>by simp [Ag]
 | [],_::_,_,h=>by simp [Ag]at h
 | _::_,[],_,h=>by simp [Ag]at h
 | p::ps,v::vs,hp,h=>by
   simp only [List.all_cons,Bool.and_eq_true]at hp
   simp only [List.map_cons,Ag]at h ⊢
   exact⟨jB hk hl ho hl2 hp.1 h.1,jC hk hl ho hl2 hp.2 h.2⟩
theorem jD {w:World} {G G':Au} {ids ns:List Ae} {m:Nat} (hk:BE G G' w w) (hl:ids.length=m) (ho: ∀ (j:Nat) (i n:Ae),ids[j]? =some i→ns[j]? =some n→G'.own n=G.own i) (hl2:ns.length=m) {p:PP} (hp:p.ok m=true) {v:Value} (h:Ab w G (p.toV ids) v):Ab w G' (p.toV ns) v:=by
 cases p with
 | c x=>simp only [PP.toV,Ab]at h ⊢;exact jB hk hl ho hl2 hp h
 | a cs=>
   simp only [PP.toV,Ab]at h ⊢
   obtain⟨arr,e,h⟩:=h
   exact⟨arr,e,jC hk hl ho hl2 hp h⟩
theorem XQ {w:World} {G G':Au} {ids ns:List Ae} {m:Nat} (hk:BE G G' w w) (hl:ids.length=m) (ho: ∀ (j:Nat) (i n:Ae),ids[j]? =some i→ns[j]? =some n→G'.own n=G.own i) (hl2:ns.length=m): ∀ {ps:List PP} {vs:List Value},ps.all (PP.ok m)=true→An w G (ps.map (PP.toV ids)) vs→An w G' (ps.map (PP.toV ns)) vs
 | [],vs,_,h=>by simpa [An] using h
 | p::ps,vs,hp,h=>by
   simp only [List.all_cons,Bool.and_eq_true]at hp
   simp only [List.map_cons,An]at h ⊢
   obtain⟨v,r,e,h1,h2⟩:=h
   exact⟨v,r,e,jD hk hl ho hl2 hp.1 h1,XQ hk hl ho hl2 hp.2 h2⟩
theorem kK {w:World} {G G':Au} {ids ns:List Ae} {m:Nat} (hk:BE G G' w w) (hl:ids.length=m) (ho: ∀ (j:Nat) (i n:Ae),ids[j]? =some i→ns[j]? =some n→G'.own n=G.own i) (hl2:ns.length=m) {ps:List PP} (hp:ps.all (PP.ok m)=true) {v:Value} (h:Ab w G (Pt ids ps) v):Ab w G' (Pt ns ps) v:=by
 match ps,hp,h with
 | [p],hp,h=>
   simp only [List.all_cons,List.all_nil,Bool.and_true]at hp
   exact jD hk hl ho hl2 hp h
 | [],hp,h=>
   grind [Pt,Ab,XQ]
 | p::q::ps,hp,h=>
   grind [Pt,Ab,XQ]
theorem TP {w:World} {G G':Au} (hk:BE G G' w w) {i n:Ae} {r:TypeId×Nat×Nat} {cs:List C} (hp:Aj cs=true) (hb:G'.blk n=G.blk i) (ho:G'.own n=G.own i) (h:AJ w G ⟨i,some r,cs,true⟩):AJ w G' ⟨n,some r,cs,true⟩:=by
 obtain⟨E,m,len⟩:=r
 unfold AJ at *
 obtain⟨hl,v,h1,h2⟩:=h
 refine⟨hl,v,by grind,?_⟩
 rcases h2 with ⟨p,e1,e2,e3⟩ | ⟨b,cap,cur,e1,e2,e3,e4,e5,e6,e7⟩
 ·grind
 ·exact .inr ⟨b,cap,cur,e1,by grind,e3,e4,e5,e6,Ai.mono hk _ _ _ (fun i hi=>absurd (show Bd i cs=true from hi) (by rw [AE i cs hp];simp)) (fun _=>rfl) e7⟩
end Go.PL
namespace Go.PL
open Go Go.RowKit
section
variable {F:Fr} {st:St} {a:Act} {w w':World} {G Gc:Au}
def F7 (F:Fr) (G Gc:Au) (ns ids:List Ae):Au where
 blk:=fun i=>match GK ns ids i with | some a=>Gc.blk a | none=>G.blk i
 own:=fun i=>match GK ns ids i with | some a=>Gc.own a | none=>G.own i
 wr:=fun x=>F.av x∨ ∃ i,(match GK ns ids i with | some a=>Gc.blk a | none=>G.blk i)=some x
theorem R.adoptX (h:R F st a w G) (hb:Below w.heap.size w w') {outs:List OE} {ids ns:List Ae} {av:Nat→Prop} (hav: ∀ b,G.wr b→av b) (hids:H6 outs ids=true) (hnd:ids.Nodup) (hns:H6 outs ns=true) (hnn:ns.Nodup)
 (hE: ∀ e∈Cs outs ids,AJ w' Gc e∧AY w' Gc e∧Aj e.cs=true) (hinj: ∀ i j b,Gc.blk i=some b→Gc.blk j=some b→i=j) (hfr: ∀ i b,Gc.blk i=some b→w.heap.size≤b∧b<w'.heap.size) (hwr: ∀ b,Gc.wr b↔av b∨ ∃ i,Gc.blk i=some b):
 R F (st.killP (GR ns) (Cs outs ns++(st.so.filter fun e=> !(GR ns e.id)).map (Ak.killP (GR ns)))) a w' (F7 F G Gc ns ids)∧BE Gc (F7 F G Gc ns ids) w' w'∧
   ∀ (j:Nat) (i n:Ae),ids[j]? =some i→ns[j]? =some n→(F7 F G Gc ns ids).own n=Gc.own i:=by
 obtain⟨l1,m1,d1⟩:=G8 hids
 obtain⟨l2,m2,d2⟩:=G8 hns
 have hnone: ∀ i,GR ns i=false→GK ns ids i=none:=fun i hi=>aL (by omega) hi
 have hin: ∀ (j:Nat) (i n:Ae),ids[j]? =some i→ns[j]? =some n→GK ns ids n=some i∧ ∀ k,GK ns ids (A9 k n)=some (A9 k i):=(by grind [gO])
 have sub: ∀ b,(F7 F G Gc ns ids).wr b→Gc.wr b:=fun b hw=>by
  rw [hwr]
  simp only [F7]at hw
  rcases hw with q | ⟨i,q⟩
  ·exact .inl (hav b ((h.wr b).2 (.inl q)))
  ·split at q
   ·grind
   ·exact .inl (hav b ((h.wr b).2 (.inr ⟨i,q⟩)))
 have hk:BE Gc (F7 F G Gc ns ids) w' w':=BE.sub (by grind)
 have t:Gn F (GR ns) (fun _=>false) G (F7 F G Gc ns ids) w w':={
  agree:=(by simp_all [F7])
  same:=fun i b _ hib=>hb.block b (h.lt i b hib)
  keeps:=⟨hb.size,fun b hb' _=>hb.block b hb',fun b hb' hw=>by
   simp only [F7]at hw
   rw [h.wr]
   grind,fun i b q1 _=>Bt.same (hb.block b (h.lt i b q1))⟩
  outer:=B7 hb
  ext:=fun b hb' _=>hb.block b (Nat.lt_of_lt_of_le hb' h.hsize)
  wr:=fun b=>Iff.rfl
  inj:=fun i j b q1 q2=>by
   simp only [F7]at q1 q2
   split at q1<;>split at q2
   ·grind [dD]
   ·have a1:=hfr _ _ q1;have a2:=h.lt _ _ q2;omega
   ·have a1:=hfr _ _ q2;have a2:=h.lt _ _ q1;omega
   ·exact h.inj _ _ _ q1 q2
  lt:=fun i b q=>by
   simp only [F7]at q
   split at q
   ·grind
   ·exact Nat.lt_of_lt_of_le (h.lt _ _ q) hb.size
  new:=fun i b q=>by
   simp only [F7]at q
   split at q
   ·exact .inl (Nat.le_trans h.hsize (hfr _ _ q).1)
   ·exact h.new _ _ q}
 have hown: ∀ (j:Nat) (i n:Ae),ids[j]? =some i→ns[j]? =some n→(F7 F G Gc ns ids).own n=Gc.own i:=(by grind [F7])
 have hblk: ∀ (j:Nat) (i n:Ae),ids[j]? =some i→ns[j]? =some n→(F7 F G Gc ns ids).blk n=Gc.blk i:=(by grind [F7])
 have new: ∀ e∈Cs outs ns,AJ w' (F7 F G Gc ns ids) e∧AY w' (F7 F G Gc ns ids) e∧Aj e.cs=true:=by
  intro e he
  obtain⟨j,o,n,q1,q2,rfl⟩:=Sf he
  have hj:j<ids.length:=by
   grind
  obtain⟨i,q3⟩: ∃ i,ids[j]? =some i:=(by grind)
  obtain⟨e1,e2,e3⟩:=hE _ (V8 q1 q3)
  have hb1:=hblk j i n q3 q2
  have ho1:=hown j i n q3 q2
  refine⟨TP hk e3 hb1 ho1 e1,⟨m2 n (List.mem_of_getElem? q2),fun hd=>⟨rfl,rfl,?_⟩⟩,e3⟩
  have hdi:Db i=true:=by rw [d1 j o i q1 q3, ←d2 j o n q1 q2];exact hd
  obtain⟨_,_,hI⟩:=e2.2 hdi
  intro k E n' len cs hc
  obtain⟨p1,p2,b,v,p3,p4,p5⟩:=hI k E n' len cs hc
  have hm:=(hin j i n q3 q2).2 k
  have hbm:(F7 F G Gc ns ids).blk (A9 k n)=Gc.blk (A9 k i):=by simp only [F7,hm]
  have hom:(F7 F G Gc ns ids).own (A9 k n)=Gc.own (A9 k i):=by simp only [F7,hm]
  exact⟨p1,TP hk p1 hbm hom p2,b,v,hb1.trans p3,p4,hom.trans p5⟩
 have hold: ∀ e∈(st.so.filter fun e=> !(GR ns e.id)).map (Ak.killP (GR ns)), ∃ d∈st.so,GR ns d.id=false∧e=d.killP (GR ns):=by
  grind
 have hdk: ∀ d∈st.so,GR ns d.id=false→Db d.id=true→ ∀ k,GR ns (A9 k d.id)=false∧(fun _=>false:Ae→Bool) (A9 k d.id)=false:=by
  intro d hd hp hD k
  refine⟨?_,rfl⟩
  cases hq:GR ns (A9 k d.id)with
  | false=>rfl
  | true=>
    obtain⟨n,hn,hq⟩:=List.any_eq_true.1 hq
    simp only [Bool.or_eq_true,beq_iff_eq]at hq
    rcases hq with hq | hq
    ·have:=m2 n hn;rw [←hq]at this;cases this
    simp_all [Fa,GR]
 refine⟨t.killed h _ (fun e he=>?_) (fun e he=>?_) (fun e he=>?_) ?_,hk,hown⟩
 ·rcases List.mem_append.1 he with he | he
  ·grind
  ·obtain⟨d,h1,h2,rfl⟩:=hold e he
   exact t.ent h h1 h2 rfl
 ·rcases List.mem_append.1 he with he | he
  ·grind
  ·obtain⟨d,h1,h2,rfl⟩:=hold e he
   exact t.deep h h1 h2 rfl (hdk d h1 h2)
 ·rcases List.mem_append.1 he with he | he
  ·grind
  ·obtain⟨d,h1,h2,rfl⟩:=hold e he
   exact Jw (h.pures d h1)
 ·rw [List.map_append,Sh l2,List.map_map]
  have e1:(fun e:Ak=>e.id) ∘ Ak.killP (GR ns)=fun e=>e.id:=by grind [Ak.killP_id]
  rw [e1]
  refine List.nodup_append.2 ⟨hnn,List.Sublist.nodup (by grind [List.filter_sublist]) h.nodup,fun x hx y hy=>?_⟩
  obtain⟨d,hd,rfl⟩:=List.mem_map.1 hy
  grind [GR]
theorem Dk.callX {P:Program} {I:World→Prop} {o:Oper} {K:St→Prop} {f:FuncId} {xs:List Operand} {outs:List OE} {ps:List PP} (d:Nat)
 (hk:A2 o.op= .call f xs) (hd:o.dst=some d) (ha:(st.args true xs).1) (hp:Bv ((st.args true xs).2.map (A1 st))=true) (htop:B0 (st.args true xs).2=[])
 (hc:XP P I f ((st.args true xs).2.map (A1 st)) outs ps) {ns:List Ae} (hns:H6 outs ns=true) (hnn:ns.Nodup)
 (hK:K ((st.killP (GR ns) (Cs outs ns++(st.so.filter fun e=> !(GR ns e.id)).map (Ak.killP (GR ns)))).put (some d) (Pt ns ps))):Dk P I o st K:=by
 intro F a w G Q0 hI hR
 have hI':I w:=hI▸hR.inv w hR.hsize hR.ext
 have hr:=KH (a:=a) hk hc.ent w
 unfold Oper.wp Oper.upon
 rw [hr]
 have hx:An w G (st.args true xs).2 (xs.map a.eval):=hR.args rfl ha
 have h3:=En hR (av:=fun b=>G.wr b) (fun _ _ q=>q) (by grind) hp hx
 refine(hc.run w (xs.map a.eval).toArray (fun b=>G.wr b) hI' (fun b hb=>hR.avlt' hb) (by grind)).mono fun e w' ⟨v,ids,Gc,he,hids,hnd,hv,hE,hinj,hfr,hwr,hb⟩=>?_
 subst he
 obtain⟨g1,g2,g3⟩:=hR.adoptX hb (fun _ q=>q) hids hnd hns hnn hE hinj hfr hwr
 refine⟨_,F7 F G Gc ns ids,hK,?_⟩
 rw [hd]
 exact R.put (d:=some d) g1 (kK g2 (G8 hids).1 g3 (G8 hns).1 hc.pok hv)
end
end Go.PL
set_option linter.all false
namespace Go.PL
open Go Go.RowKit
section
variable {w:World} {G:Au} {av:Nat→Prop}
end
end Go.PL
