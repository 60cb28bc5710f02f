/- The pure logic: PlPf, PlPg, PlPh, PlPi, PlPj, PlPk, PlPm, PlPn, PlPo, PlPp, PlPr, PlPt, PlPv, PlPz, PlPu, PlQa, Ta, Tb, Tc, Td, Te, Tf, Tg, Th, Ti, PlYa, PlYb. -/
import Derived.Test.YteginlijmbcopaaGreatDoorPlRtoPlPe
import Derived.Lib.ConvBytes
import Derived.Lib.AtoiErrMem
import Derived.Laws.Cover3
import Derived.Scope
import Derived.Lib.AppendStr
import Derived.Lib.Builder
import Derived.Lib.UnsafeStr
import Derived.MapKept
open Bool (and_eq_true not_eq_true' or_eq_true)
open Nat (le_succ beq_eq eq_of_beq_eq_true blt_eq le_refl ble_eq add_comm zero_add add_mul one_mul add_assoc add_zero)
open List (mem_cons map_cons flatMap_cons mem_map all_eq_true all_cons getD_eq_getElem?_getD mem_filter mem_range map_congr_left ext_getElem? take_append_drop mem_of_getElem? map_map getElem?_map map_append nodup_cons mem_append)
open Option.some (injEq)
open Option (map_some getD_some)
set_option linter.all false
namespace Go.PL
open Go Go.RowKit
def AbN (st:St) (e:Au):St:={st with so:=Ra e (st.so.filter (fun x=>x.id != e.id&& !(CM e.id&&Ep x.id)))}
theorem Rr {id:Ah} {v:V} (h:v.p_ id=false):Es id v=v:=by simp_all [Es]
theorem cx {id:Ah}: ∀ {l:List V},(∀ v∈l,v.p_ id=false)->l.map (Es id)=l
 | [],_=>rfl
 | v::l,h=>by rw [map_cons,Rr (h v (by simp)),cx (fun x hx=>h x (by simp [hx]))]
theorem jg {id:Ah}: ∀ {l:List C},BU id l=false->l.map (Io id)=l
 | [],_=>rfl
 | c::l,h=>by simp only [BU,Bool.or_eq_false_iff]at h;rw [map_cons,jg h.2,Io,if_neg (by simp [h.1])]
def Au.fre (id:Ah) (e:Au):Bool:=e.pu|| !BU id e.cs
theorem Au.adt {id:Ah} {e:Au} (h:e.fre id=true):e.kill id=e:=by obtain⟨i,r,cs,pu⟩:=e;cases pu<;>simp_all [Au.fre,Au.kill,jg]
theorem AbO {st:St} {e:Au} (h1: ∀ v∈st.tm,v.p_ e.id=false) (h2: ∀ x∈st.so,x.id=e.id\/x.fre e.id=true) (h3: ∀ v∈st.gh,v.p_ e.id=false) (h4:e.fre e.id=true):st.new e=AbN st e:=by
 have a:(st.so.filter (fun x=>x.id != e.id&& !(CM e.id&&Ep x.id))).map (Au.kill e.id)=st.so.filter (fun x=>x.id != e.id&& !(CM e.id&&Ep x.id)):=by
  have: ∀ l:List Au,(∀ x∈l,x.id=e.id\/x.fre e.id=true)->(l.filter (fun x=>x.id != e.id&& !(CM e.id&&Ep x.id))).map (Au.kill e.id)=l.filter (fun x=>x.id != e.id&& !(CM e.id&&Ep x.id)):=by
   intro l;induction l with
   | nil=>intro _;rfl
   | cons x l ih=>
     intro hl;simp only [List.filter_cons];grind [Au.adt]
  grind
 simp_all [St.new,AbN,St.kill,cx,Au.adt]
def mkE (P:Program) (st:St) (s:Stp) (o:Oper):Option (List Prop×Au×V):=
 match o.guard,o.dst,s with
 | none,some d, .a =>match o.op with
   | .alloc T=>match UF P T with
     | some cs=>some ([],⟨d::st.pre,none,cs,false⟩, .c (.ptr (d::st.pre) 0))
     | none=>none
   | .box _ x=>match (AW st true x).2.cells with
     | some cs=>some ((AW st true x).1,⟨d::st.pre,none,cs,false⟩, .c (.ptr (d::st.pre) 0))
     | none=>none
   | .assign (.const (.slice none 0 0))=>match Dt P o.type with
     | some (E,n)=>some ([],⟨d::st.pre,some (E,n,0),[],true⟩, .c (.j_ (d::st.pre)))
     | none=>none
   | .buildSlice t len ps=>match DR P t with
     | some (E,n,_)=>match Nt P E with
       | some z=>match Jc (fun i=>some (i*n,n)) (B7 z len) ((Kc st true ps.toList).2.map Rb)with
         | some cs=>match z.length==n&&Nat.blt 0 n&&Nat.ble (len*n) (2 ^ 24)&&Am cs with
           | true=>some ((Kc st true ps.toList).1++[],⟨d::st.pre,some (E,n,len),cs,true⟩, .c (.j_ (d::st.pre)))
           | false=>none
         | none=>none
       | none=>none
     | none=>none
   | _=>none
 | none,some d, .e len cs=>match o.op with
   | .makeSlice t l c=>match (AW st true l).2,(AW st true c).2,DR P t with
     | .c (.int _ l'), .c (.int _ c'),some (E,n,by')=>match Nt P E with
       | some z=>match z.length==n&&Nat.blt 0 n with
         | true=>some (((AW st true l).1++(AW st true c).1)++([l'.toNat=len/\B7 z l'.toNat=cs]++[0<=l'/\l'<=c'/\c'*by'<=140737488355328/\c'<=maxLen]),⟨d::st.pre,some (E,n,len),cs,true⟩, .c (.j_ (d::st.pre)))
         | false=>none
       | none=>none
     | _,_,_=>none
   | _=>none
 | _,_,_=>none
theorem jh {P:Program} {I:World->Prop} {st:St} {s:Stp} {ops:Array Oper} {o:Oper} {l:List Prop} {e:Au} {v:V} (h:mkE P st s o=some (l,e,v)):
 K5 P I false ops o s st=some (l,(st.new e).put o.dst v):=by
 obtain⟨dst,op,ty,pos,aft,gd⟩:=o;unfold mkE at h;split at h
 ·rename_i d h1 h2;simp only at h1 h2;subst h1 h2;split at h
  ·rename_i T hT;simp only at hT;subst hT;split at h
   ·rename_i cs hz;simp only [injEq,Prod.mk.injEq]at h;obtain⟨rfl,rfl,rfl⟩:=h;grind [K5,Ke,BH,tO]
   ·cases h
  ·rename_i T x hT;simp only at hT;subst hT;split at h
   ·rename_i cs hz;simp only [injEq,Prod.mk.injEq]at h;obtain⟨rfl,rfl,rfl⟩:=h;grind [K5,Ke,BH,tO]
   ·cases h
  ·rename_i hT;simp only at hT;subst hT;split at h
   ·rename_i E n hz;simp only [injEq,Prod.mk.injEq]at h;obtain⟨rfl,rfl,rfl⟩:=h;grind [K5,Ke,BH,tO]
   ·cases h
  ·rename_i t len ps hT;simp only at hT;subst hT;split at h
   ·rename_i E n b h1;split at h
    ·rename_i z h2;split at h
     ·rename_i cs h3;split at h
      ·rename_i hb;simp only [injEq,Prod.mk.injEq]at h;obtain⟨rfl,rfl,rfl⟩:=h;simp only [K5,Ke,BH,tO,xU,h1,h2,h3,hb,mP]
      ·cases h
     ·cases h
    ·cases h
   ·cases h
  ·cases h
 ·rename_i d len cs h1 h2;simp only at h1 h2;subst h1 h2;split at h
  ·rename_i t l c hT;simp only at hT;subst hT;split at h
   ·rename_i E n b h1 h2 h3;split at h
    ·rename_i z h4;split at h
     ·rename_i hb;simp only [injEq,Prod.mk.injEq]at h;obtain⟨rfl,rfl,rfl⟩:=h;simp only [K5,Ke,BH,tO,pq,h1,h2,h3,h4,hb,mP]
     ·cases h
    ·cases h
   ·cases h
  ·cases h
 ·cases h
theorem tZ {P:Program} {st:St} {s:Stp} {o:Oper} {r:List Prop×Au×V} (h:mkE P st s o=some r): ∀ x,s ≠ .D x:=by intro x hx;simp_all [mkE]
theorem px {P:Program} {I:World->Prop} {dr:Bool} {ops:Array Oper} {o:Oper} {s:Stp} {st:St} (h: ∀ x,s ≠ .D x):K5 P I dr ops o s st=Ke P I dr ops o s st:=by cases s<;>first | rfl | grind
theorem AbP {P:Program} {st:St} {s:Stp} {o:Oper} {l:List Prop} {e:Au} {v:V} (h:mkE P st s {o with guard:=none}=some (l,e,v)):
 BH o.op= .ef /\tO P st s o=some (l,(st.new e).put o.dst v):=by
 have hs:=jh (I:=fun _=>True) (ops:= #[]) h;obtain⟨dst,op,ty,pos,aft,gd⟩:=o;have hk:BH op= .ef :=by
  unfold mkE at h;split at h
  ·split at h
   all_goals first
    | (rename_i hT;simp only at hT;subst hT;rfl)
    | grind
  ·split at h
   all_goals first
    | (rename_i hT;simp only at hT;subst hT;rfl)
    | grind
  ·cases h
 refine⟨hk,?_⟩;rw [px (tZ h)]at hs;unfold Ke at hs;simp only [hk]at hs;exact hs
def mkG (P:Program) (st:St) (s:Stp) (ops:Array Oper) (o:Oper):Option (List Prop×Au×V):=
 match o.guard with
 | none=>mkE P st s o
 | some (j,want)=>match mkE P st s {o with guard:=none}with
   | some (l,e,v)=>match Ia st ops j want with
     | some g=>some (l++[g=true],e,v)
     | none=>none
   | none=>none
theorem ua {P:Program} {I:World->Prop} {st:St} {s:Stp} {ops:Array Oper} {o:Oper} {l:List Prop} {e:Au} {v:V} (h:mkG P st s ops o=some (l,e,v)):
 K5 P I false ops o s st=some (l,(st.new e).put o.dst v):=by
 unfold mkG at h;split at h
 ·exact jh h
 ·rename_i j want hg;split at h
  ·rename_i l1 e1 v1 h1;split at h
   ·rename_i g hq;simp only [injEq,Prod.mk.injEq]at h;obtain⟨rfl,rfl,rfl⟩:=h;obtain⟨hk,he⟩:=AbP h1;grind [px,tZ,Ke]
   ·cases h
  ·cases h
structure RD where
 tm:List (List (Nat×V)×V)
 so:List (List (Nat×Au)×Option Au)
 gh:List V
 pre:Ah
def xX (f:Nat->Bool):List (Nat×V)->V->V
 | [],u=>u
 | (i,v)::ws,u=>xX f ws (cond (f i) v u)
def xY (f:Nat->Bool):List (Nat×Au)->Option Au->Option Au
 | [],u=>u
 | (i,v)::ws,u=>xY f ws (cond (f i) (some v) u)
def RD.st (d:RD) (f:Nat->Bool):St:=⟨d.tm.map (fun x=>xX f x.1 x.2),d.so.filterMap (fun x=>xY f x.1 x.2),d.gh,d.pre⟩
theorem ji {id:Ah} {f:Nat->Bool} {dead:Nat->Bool} (hd: ∀ j,dead j=true->f j=false): ∀ {ws:List (Nat×V)} {u:V},(ws.all fun y=>dead y.1|| !y.2.p_ id)=true->u.p_ id=false->(xX f ws u).p_ id=false
 | [],u,_,h=>h
 | (i,v)::ws,u,h,hu=>by simp only [all_cons,and_eq_true,or_eq_true,not_eq_true']at h;show (xX f ws (cond (f i) v u)).p_ id=false;refine ji (ws:=ws) hd h.2 ?_;grind
theorem jk {id:Ah} {f:Nat->Bool} {dead:Nat->Bool} (hd: ∀ j,dead j=true->f j=false): ∀ {ws:List (Nat×Au)} {u:Option Au},(ws.all fun y=>dead y.1||(y.2.id==id||y.2.fre id))=true->(∀ e,u=some e->e.id=id\/e.fre id=true)-> ∀ e,xY f ws u=some e->e.id=id\/e.fre id=true
 | [],u,_,h=>h
 | (i,v)::ws,u,h,hu=>by simp only [all_cons,and_eq_true,or_eq_true,beq_iff_eq]at h;show ∀ e,xY f ws (cond (f i) (some v) u)=some e->_;refine jk (ws:=ws) hd h.2 ?_;grind
def ub (id:Ah):Option Au->Bool
 | some e=>e.id==id||e.fre id
 | none=>true
def RD.free (d:RD) (id:Ah) (dead:Nat->Bool):Bool:=
 d.tm.all (fun x=>x.1.all (fun y=>dead y.1|| !y.2.p_ id)&& !x.2.p_ id)&&
 (d.so.all (fun x=>x.1.all (fun y=>dead y.1||(y.2.id==id||y.2.fre id))&&ub id x.2)&&d.gh.all (fun v=> !v.p_ id))
theorem RD.free_spec {d:RD} {id:Ah} {dead f:Nat->Bool} (hd: ∀ j,dead j=true->f j=false) (h:d.free id dead=true):
 (∀ v∈(d.st f).tm,v.p_ id=false)/\(∀ x∈(d.st f).so,x.id=id\/x.fre id=true)/\(∀ v∈(d.st f).gh,v.p_ id=false):=by
 simp only [RD.free,and_eq_true,all_eq_true]at h;refine⟨fun v hv=>?_,fun x hx=>?_,fun v hv=>?_⟩
 ·simp only [RD.st,mem_map]at hv;obtain⟨y,h1,rfl⟩:=hv;have:=h.1 y h1;simp only [and_eq_true,not_eq_true']at this;exact ji hd (by grind) this.2
 ·simp only [RD.st,List.mem_filterMap]at hx;obtain⟨y,h1,h2⟩:=hx;have:=h.2.1 y h1;refine jk hd (by grind) (fun e he=>?_) x h2;grind [ub]
 ·have:=h.2.2 v hv;grind
def uc (P:Program) (I:World->Prop) (ops:Array Oper) (ss:List Stp) (ids:List Ah) (d:RD) (dead f:Nat->Bool) (i:Nat):Option (List Prop×St):=
 match ops[i]?,ss[i]? with
 | some o,some s=>match mkG P (d.st f) s ops o with
   | some (l,e,v)=>match d.free e.id dead&&e.fre e.id with
     | true=>some (l,tV ids ((AbN (d.st f) e).put o.dst v))
     | false=>none
   | none=>match K5 P I false ops o s (d.st f)with
     | some (c,a_)=>some (c,tV ids a_)
     | none=>none
 | _,_=>none
theorem mV {P:Program} {I:World->Prop} {ops:Array Oper} {ss:List Stp} {ids:List Ah} {d:RD} {dead f:Nat->Bool} {i:Nat} {r:List Prop×St} (hd: ∀ j,dead j=true->f j=false) (h:uc P I ops ss ids d dead f i=some r):
 jd P I ops ss ids (d.st f) i=some r:=by
 unfold uc at h;unfold jd;split at h
 ·rename_i o s h1 h2
  try simp only [h1,h2]
  split at h
  ·rename_i l e v h3;split at h
   ·rename_i hb;simp only [and_eq_true]at hb;obtain⟨a,b,c⟩:=RD.free_spec (f:=f) hd hb.1;rw [ua h3,AbO a b c hb.2];exact h
   ·cases h
  ·exact h
 ·cases h
def Hw:List Nat->Nat->Bool
 | [],_=>false
 | x::l,j=>cond (Nat.beq x j) true (Hw l j)
theorem Dd: ∀ {l:List Nat} {j:Nat},Hw l j=true↔j∈l
 | [],j=>by simp [Hw]
 | x::l,j=>by
   simp only [Hw,mem_cons];cases h:Nat.beq x j
   ·simp only [cond_false,Dd (l:=l)];have:x ≠ j:=fun e=>by simp_all
    grind
   simp_all
def lkB:List Nat->List Bool->Nat->Option Bool
 | e::es,b::bs,j=>cond (Nat.beq e j) (some b) (lkB es bs j)
 | _,_,_=>none
theorem Wr (f:Nat->Bool): ∀ (E:List Nat) (j:Nat),lkB E (E.map f) j=if j∈E then some (f j)else none
 | [],j=>rfl
 | e::E,j=>by
   simp only [map_cons,lkB,Wr f E j,mem_cons];cases h:Nat.beq e j
   ·have:j ≠ e:=fun q=>by subst q;simp at h
    simp [this]
   ·have:=eq_of_beq_eq_true h;subst this;simp
def gam (pr:List (List Nat)) (E:List Nat) (mb:List Bool) (i:Nat) (b:Nat->Bool):Nat->Bool:=fun j=>
 cond (Nat.beq j i) false (cond (Hw (pr.getD j []) i) false (match lkB E mb j with
  | some x=>x
  | none=>cond (Hw (pr.getD i []) j) true (b j)))
def xZ (f:Nat->Bool) (i:Nat):Nat->Bool:=fun j=>cond (Nat.beq j i) true (f j)
def ud (pr:List (List Nat)) (i:Nat):Nat->Bool:=fun j=>cond (Nat.beq j i) true (Hw (pr.getD j []) i)
def ry (pr:List (List Nat)) (E:List Nat) (mb:List Bool) (N:Nat):List Nat:=
 (List.range N).filter fun i=>(match lkB E mb i with
  | some true=>false
  | _=>true)&&(pr.getD i []).all fun j=>match lkB E mb j with
    | some false=>false
    | _=>true
def VL (ops:Array Oper) (i:Nat):List Nat:=match ops[i]? with
 | some o=>(o.after.toList.filter (Region.binds .any)).map (·.on)
 | none=>[]
def Rs (ops:Array Oper) (pr:List (List Nat)):Bool:=
 (List.range ops.size).all fun i=>(VL ops i).all (fun j=>Nat.blt j i&&Hw (pr.getD i []) j)&&(pr.getD i []).all fun j=>Hw (VL ops i) j||(VL ops i).any fun k=>Hw (pr.getD k []) j
def ya (pr:List (List Nat)) (E:List Nat) (ms:List (List Bool)) (N:Nat):Bool:=
 ms.contains (E.map fun _=>false)&&ms.all fun mb=>(ry pr E mb N).all fun i=>ms.contains (E.map fun j=>cond (Nat.beq j i) true ((lkB E mb j).getD false))
def Aen (P:Program) (I:World->Prop) (ops:Array Oper) (ss:List Stp) (ids:List Ah) (d:RD) (pr:List (List Nat)) (E:List Nat) (ms:List (List Bool)) (b:Nat->Bool):List (Option (List Prop×St)):=
 ms.flatMap fun mb=>(ry pr E mb ops.size).map fun i=>uc P I ops ss ids d (ud pr i) (gam pr E mb i b) i
def AaJ (ops:Array Oper) (cs:List (List Prop)) (d:RD) (pr:List (List Nat)) (E:List Nat) (ms:List (List Bool)) (b:Nat->Bool):List (Option (List Prop×St)):=
 ms.flatMap fun mb=>(ry pr E mb ops.size).map fun i=>some (cs.getD i [],d.st (xZ (gam pr E mb i b) i))
def bv (v:List Bool):Nat->Bool:=fun j=>v.getD j false
theorem jm {α β:Type} {f g:α->Nat->β} {r:α->List Nat}: ∀ {l:List α},(l.flatMap fun n=>(r n).map (f n))=(l.flatMap fun n=>(r n).map (g n))-> ∀ n∈l, ∀ i∈r n,f n i=g n i
 | [],_,n,hn,_,_=>by simp at hn
 | a::l,h,n,hn,i,hi=>by
   simp only [flatMap_cons]at h;have hh:=List.append_inj h (by simp);rcases mem_cons.1 hn with rfl | hn
   ·simp_all
   ·exact jm hh.2 n hn i hi
section
variable {P:Program} {F:Fr} {ops:Array Oper}
theorem cy {v:List Bool} {i:Nat} (hv:v.length=ops.size) (h:i∈Region.ready .any ops v.toArray):i<ops.size/\bv v i=false/\ ∀ j∈VL ops i,bv v j=true:=by
 unfold Region.ready at h;simp only [mem_filter,mem_range,and_eq_true,not_eq_true']at h;obtain⟨h1,h2,h3⟩:=h;refine⟨h1,?_,fun j hj=>?_⟩
 ·simp_all [bv]
 ·unfold VL at hj;have ho:ops[i]? =some ops[i]:=(by grind);rw [ho]at hj h3;simp only [mem_map,mem_filter]at hj;obtain⟨e,⟨he,hb⟩,rfl⟩:=hj;simp only [map_some,getD_some,Array.all_eq_true_iff_forall_mem]at h3;have:=h3 e (by simpa using he);simp_all [bv]
theorem ue {v:List Bool} {pr:List (List Nat)} (hv:v.length=ops.size) (hp:Rs ops pr=true) (h:Region.ready .any ops v.toArray=[]): ∀ i,i<ops.size->bv v i=true:=by
 intro i;induction i using Nat.strongRecOn with
 | ind i ih=>
   intro hi;cases hb:bv v i
   ·exfalso;have:i∈Region.ready .any ops v.toArray:=by
     unfold Region.ready;simp only [mem_filter,mem_range,and_eq_true,not_eq_true'];refine⟨hi,?_,?_⟩
     ·simp_all [bv]
     ·have ho:ops[i]? =some ops[i]:=(by grind);rw [ho];simp only [map_some,getD_some,Array.all_eq_true_iff_forall_mem];intro e he;cases hbd:Region.binds .any e
      ·rfl
      ·have hd:e.on∈VL ops i:=by unfold VL;grind
       simp only [Rs,all_eq_true,mem_range,and_eq_true]at hp;have hlt:=((hp i hi).1 _ hd).1;simp only [blt_eq]at hlt;have:=ih _ hlt (by omega);simp_all [bv]
    grind
   ·rfl
theorem Agy {pr:List (List Nat)} {E:List Nat} {ms:List (List Bool)} {ss:List Stp} {ids:List Ah} {cs:List (List Prop)} {d:RD} {Q:Exit->St->Prop} (afZ:ids.Nodup) (hp:Rs ops pr=true) (hm:ya pr E ms ops.size=true)
 (hst: ∀ b,Aen P F.I ops ss ids d pr E ms b=AaJ ops cs d pr E ms b) (hc:Rq cs) (hQ:Q .normal (d.st fun j=>Nat.blt j ops.size)):
 ∀ (fuel:Nat) (v:List Bool) (a:Act) (w:World) (G:AF),v.length=ops.size->E.map (bv v)∈ms->(∀ i,bv v i=true-> ∀ j∈pr.getD i [],bv v j=true)->tW v<=fuel->R F (d.st (bv v)) a w G->
   wpAny P .any ops (fun e a' w'=> ∃ a_ G',Q e a_/\R F a_ a' w' G') fuel v.toArray a w:=by
 have fin: ∀ (v:List Bool) a w G,v.length=ops.size->Region.ready .any ops v.toArray=[]->R F (d.st (bv v)) a w G-> ∃ a_ G',Q .normal a_/\R F a_ a w G':=by
  intro v a w G hv hr hR;have e:bv v=fun j=>Nat.blt j ops.size:=by
   funext j;by_cases hj:j<ops.size
   ·rw [ue hv hp hr j hj];simp_all
   ·have h1:bv v j=false:=by grind [bv]
    rw [h1];cases hb:Nat.blt j ops.size
    ·rfl
    ·simp at hb;omega
  grind
 intro fuel;induction fuel with
 | zero=>
   intro v a w G hv hE hcl hu hR;have hz:=je _ (Nat.le_zero.1 hu);have hr:Region.ready .any ops v.toArray=[]:=by
    rcases hrr:Region.ready .any ops v.toArray with _ | ⟨i,r⟩
    ·rfl
    ·have:=cy hv (i:=i) (by grind);rw [all_eq_true]at hz;have hlt:i<v.length:=by omega
     have h2:=hz v[i] (List.getElem_mem hlt);grind [bv]
   exact⟨hr,fin v a w G hv hr hR⟩
 | succ fuel ih=>
   intro v a w G hv hE hcl hu hR;refine⟨(by grind),fun i hi=>?_⟩;obtain⟨hlt,hf,aFm⟩:=cy hv hi;have hp':=hp;simp only [Rs,all_eq_true,mem_range,and_eq_true,or_eq_true,List.any_eq_true,Dd]at hp';have alY: ∀ j∈pr.getD i [],bv v j=true:=by grind
   have aEN: ∀ j,i∈pr.getD j []->bv v j=false:=by grind
   have hg:gam pr E (E.map (bv v)) i (bv v)=bv v:=by
    funext j;unfold gam;cases h1:Nat.beq j i
    ·simp only [cond_false];cases h2:Hw (pr.getD j []) i
     ·simp only [cond_false,Wr];grind [Dd]
     grind [Dd]
    simp_all
   have hri:i∈ry pr E (E.map (bv v)) ops.size:=by simp_all [ry,Wr]
   have acZ:=jm (r:=fun mb=>ry pr E mb ops.size) (hst (bv v)) _ hE i hri;rw [hg]at acZ;have atS: ∀ j,ud pr i j=true->bv v j=false:=by grind [ud,Dd,eq_of_beq_eq_true]
   have acZ:=mV atS acZ;have aey:xZ (bv v) i=bv (v.set i true):=by
    funext j;unfold xZ;cases h1:Nat.beq j i
    ·have:i ≠ j:=fun e=>by simp_all
     grind [bv]
    grind [eq_of_beq_eq_true,bv]
   unfold jd at acZ;split at acZ
   ·rename_i o s ho hs;split at acZ
    ·rename_i c a_ hss;simp only [injEq,Prod.mk.injEq]at acZ;obtain⟨hcc,aoD⟩:=acZ;rw [aey]at aoD;have hwp:=Ro (K:=fun s'=>B8 s' (d.st (bv (v.set i true)))) hss (hcc▸S0 hc i) (aoD▸cr ids afZ a_);have hw:=O9 (Q:=fun e a' w'=> ∃ a_ G',Q e a_/\R F a_ a' w' G') hR hwp;have agf: ∀ a' w',ir F (fun s'=>B8 s' (d.st (bv (v.set i true)))) a' w'->wpAny P .any ops (fun e a' w'=> ∃ a_ G',Q e a_/\R F a_ a' w' G') fuel (v.toArray.setIfInBounds i true) a' w':=by
      intro a' w' ⟨s',G',hl,hR'⟩;have hsa:v.toArray.setIfInBounds i true=(v.set i true).toArray :=by simp
      rw [hsa];refine ih (v.set i true) a' w' G' (by grind) ?_ ?_ ?_ (hR'.less hl)
      ·simp only [ya,and_eq_true,all_eq_true,List.contains_iff_mem]at hm;have:=hm.2 _ hE i hri;have e:(E.map fun j=>cond (Nat.beq j i) true ((lkB E (E.map (bv v)) j).getD false))=E.map (bv (v.set i true)):=by refine map_congr_left (fun j hj=>?_);rw [<-aey,Wr,if_pos hj];rfl
       grind
      ·intro k hk j hj;rw [<-aey]at hk ⊢;unfold xZ at hk ⊢;cases h1:Nat.beq j i
       ·simp only [cond_false];grind [eq_of_beq_eq_true]
       ·rfl
      grind [bv,eU]
     unfold wpOp;rw [ho];simp only;by_cases hwt:Region.wanted o (yielded ops a.tmps)=true
     ·rw [if_pos hwt]at hw ⊢;grind [Oper.wp_mono]
     grind
    grind
   grind
theorem Ad.av8 {st:St} {rid:Nat} {l:List Oper} {Q:Exit->St->Prop} (h1:P.follows .mixedOrders =true) (pr:List (List Nat)) (E:List Nat) (ms:List (List Bool)) (ss:List Stp) (ids:List Ah) (d:RD) (cs:List (List Prop)) (hc:Rq cs) (hQ:Q .normal (d.st fun j=>Nat.blt j l.toArray.size))
 (afZ:LE ids=true:=by kernel_rfl) (hp:Rs l.toArray pr=true:=by kernel_rfl) (hm:ya pr E ms l.toArray.size=true:=by kernel_rfl) (h0:Xe st (d.st fun _=>false)=some (d.st fun _=>false):=by kernel_rfl)
 (hst: ∀ b,Aen P F.I l.toArray ss ids d pr E ms b=AaJ l.toArray cs d pr E ms b:=by intro b;kernel_rfl):Ad P F (.region rid l.toArray true) st Q:=by
 intro a w G hR;refine wp_region_any h1 ?_;have hR':=(hR.less (B8.t h0)).same (w':={w with drawn:=w.drawn+1}) ⟨rfl,rfl,rfl⟩ ⟨le_refl _,fun _ _=>rfl⟩;have e0:bv (List.replicate l.toArray.size false)=fun _=>false:=by grind [bv]
 have key:=Agy (P:=P) (ops:=l.toArray) (Q:=Q) (Gu afZ) hp hm hst hc hQ l.toArray.size (List.replicate l.toArray.size false) a _ G (by simp) (by
  simp_all [ya]) (by grind) (by simp [tW]) (by rw [e0];exact hR')
 grind
end
def slD:Nat->Nat->List (Nat×List (Nat×V)×V)->List (List (Nat×V)×V)
 | 0,_,_=>[]
 | n+1,i,[]=>([], .undef)::slD n (i+1) []
 | n+1,i,(j,ws,v)::l=>match Nat.beq i j with
   | true=>(ws,v)::slD n (i+1) l
   | false=>([], .undef)::slD n (i+1) ((j,ws,v)::l)
theorem bC {l:List Prop} {ls:List (List Prop)} (h:AX l) (k:Rq ls):Rq (l::ls):=⟨h,k⟩
theorem bN:Rq []:=trivial
end Go.PL
namespace Go.PL
open Go Go.RowKit
def Wk (st a_:St):Prop:= ∀ (F:Fr) (a:Act) (w:World) (G:AF),R F st a w G-> ∃ G',R F a_ a w G'
theorem Wk.less {st a_:St} (h:B8 st a_):Wk st a_:=fun _ _ _ G hR=>⟨G,hR.less h⟩
theorem Wk.trans {a b c:St} (h:Wk a b) (k:Wk b c):Wk a c:=fun F x w G hR=>by obtain⟨G',q⟩:=h F x w G hR;exact k F x w G' q
theorem Wk.frz (st:St) (id:Ah):Wk st (st.freeze id):=fun _ _ _ _ hR=>by obtain⟨G',q,_⟩:=hR.freeze id;grind
theorem wT {st a_:St} (h:Xe st a_=some a_:=by kernel_rfl):Wk st a_:=Wk.less (B8.t h)
section
variable {P:Program} {F:Fr} {st:St}
theorem Ad.wk {c:Code} {a_:St} {Q:Exit->St->Prop} (h:Wk st a_) (hh:Ad P F c a_ Q):Ad P F c st Q:=fun a w G hR=>by obtain⟨G',q⟩:=h F a w G hR;exact hh a w G' q
theorem Ad.asI {X:Type} (S:X->St) (inv:X->Prop) (μ:X->Nat) {c:Code} {Q:Exit->St->Prop} (x0:X) (h0:inv x0) (hl:Wk st (S x0))
 (hb: ∀ x,inv x->Ad P F c (S x) (Cx (fun a_=> ∃ y,inv y/\μ y<μ x/\Wk a_ (S y)) Q)):Ad P F (.loop c) st Q:=by
 refine Ad.loop (X:=X×St) (fun p=>p.2) (fun p=>inv p.1/\Wk p.2 (S p.1)) (fun p=>μ p.1) (x0,st) ⟨h0,hl⟩ (B8.refl _) (fun p hp=>?_);refine(Ad.wk hp.2 (hb p.1 hp.1)).mono fun e a_ q=>?_;cases e<;>simp only [Cx]at q ⊢ <;>try exact q
 obtain⟨y,h1,h2,h3⟩:=q;exact⟨(y,a_),⟨h1,h3⟩,h2,B8.refl _⟩
theorem It {σ ρ:Type} {B:σ->Option (σ⊕ρ)} (S:σ->St) {N:Nat} {s0:σ} {o:ρ} {c:Code} {Q:Exit->St->Prop} (hi:PL.iter B N s0=some o) (hl:Wk st (S s0))
 (hb: ∀ s z,B s=some z->(∀ o',z= .inr o'->o'=o)->Ad P F c (S s) (Cx (fun a_=> ∃ s',z= .inl s'/\Wk a_ (S s')) Q)):Ad P F (.loop c) st Q:=by
 refine Ad.asI (X:=Nat×σ) (fun x=>S x.2) (fun x=>PL.iter B x.1 x.2=some o) (fun x=>x.1) (N,s0) hi hl ?_;intro ⟨n,s⟩ hx;cases n with
 | zero=>simp [PL.iter]at hx
 | succ n=>
   simp only [PL.iter]at hx;cases hB:B s with
   | none=>grind
   | some z=>
     rw [hB]at hx;cases z with
     | inl s'=>
       refine(hb s _ hB (fun o' e=>by cases e)).mono fun e a_ q=>?_;cases e<;>simp only [Cx]at q ⊢ <;>try exact q
       obtain⟨s'',e,hl'⟩:=q;injection e with e;subst e;exact⟨(n,s'),hx,Nat.lt_succ_self _,hl'⟩
     | inr r=>
       simp only [injEq]at hx;refine(hb s _ hB (fun o' e=>by injection e with e;rw [<-e];exact hx)).mono fun e a_ q=>?_;cases e<;>simp only [Cx]at q ⊢ <;>try exact q
       grind
theorem Sj {X:Type} (S:X->St) (Φ:X->Prop) {x y:Code} {Q:Exit->St->Prop} (hx:Ad P F x st (Cx (fun a_=> ∃ v,Φ v/\Wk a_ (S v)) Q)) (hy: ∀ v,Φ v->Ad P F y (S v) Q):Ad P F (.seq x y) st Q:=
 Ad.seq (hx.mono fun e a_ q=>by
  cases e<;>simp only [Cx]at q ⊢ <;>try exact q
  grind [Ad.wk])
end
theorem cz {α:Type} (e:α->List C) (x:α) {z:List C} (hz:z=e x) (hp:0<z.length): ∀ k,B7 z k=(List.replicate k x).flatMap e:=by
 intro k;subst hz;apply ext_getElem?;intro i;have hlen:((List.replicate k x).flatMap e).length =k*(e x).length :=by simp_all
 by_cases hi:i<k*(e x).length
 ·have hm:i % (e x).length <(e x).length :=Nat.mod_lt _ hp;have key: ∀ k i,i<k*(e x).length ->((List.replicate k x).flatMap e)[i]? =(e x)[i % (e x).length]? :=by intro k;induction k<;>grind [Nat.mod_eq_of_lt,List.getElem?_append_right,Nat.mod_eq_sub_mod]
  grind [B7]
 grind [B7]
theorem uf {α:Type} {s c:List α} {a b:Int} (h:eQ s a b=some c):0<=a/\a<=b/\b<=s.length:=by grind [eQ]
theorem uh {α:Type} {s c:List α} {a b:Int} (h:eQ s a b=some c):c=(s.drop a.toNat).take (b.toNat - a.toNat):=by grind [eQ]
theorem JD {α:Type} {e:α->List C} {N:Nat} (hN: ∀ x,(e x).length =N): ∀ (l:List α) (k:Nat),(l.flatMap e).drop (k*N)=(l.drop k).flatMap e
 | l,0=>by simp
 | [],k+1=>by simp
 | x::l,k+1=>by rw [flatMap_cons,List.drop_succ_cons, <-JD hN l k,Nat.succ_mul,add_comm, <-List.drop_drop];congr 1;rw [<-hN x,List.drop_left]
theorem Hx {α:Type} {e:α->List C} {N:Nat} (hN: ∀ x,(e x).length =N): ∀ (l:List α) (k:Nat),(l.flatMap e).take (k*N)=(l.take k).flatMap e
 | l,0=>by simp
 | [],k+1=>by simp
 | x::l,k+1=>by rw [flatMap_cons,List.take_succ_cons,flatMap_cons, <-Hx hN l k,Nat.succ_mul,add_comm, <-hN x,List.take_length_add_append]
theorem Agz {α:Type} {l r:List α} {a b:Int} {e:α->List C} {N:Nat} (h:eQ l a b=some r) (hN: ∀ x,(e x).length =N):V.c (.sl (b.toNat - a.toNat) (((l.flatMap e).drop (a.toNat*N)).take ((b.toNat - a.toNat)*N)))=vL e r:=by
 have hb:=uf h;rw [JD hN,Hx hN, <-uh h];have:r.length=b.toNat - a.toNat:=by rw [uh h,List.length_take,List.length_drop];omega
 grind
theorem al3 {α:Type} {enc:α->List C} {n:Nat} (hn: ∀ x,(enc x).length =n) (l:List α):(l.flatMap enc).length =l.length*n:=BO hn l
end Go.PL
namespace Go.PL
open Go Go.RowKit
def Eg (s:List UInt8):List Int:=s.map fun b=>(b.toNat:Int)
def py (P:Program) (dst:TypeId):Option TypeId:=match P.underlying dst with
 | some (.slice e)=>match P.underlying e with
   | some (.int .u8)=>some e
   | _=>none
 | _=>none
theorem mW {P:Program} {dst e:TypeId} (h:py P dst=some e):P.underlying dst=some (.slice e)/\P.underlying e=some (.int .u8):=by grind [py]
theorem Rt {w:World} {G:AF} {e:TypeId} (s:List UInt8): ∀ (l:List UInt8) (k:Nat),s.drop k=l->Al (Lib.bytesWorld w e ⟨s.toArray⟩) G ((Eg l).flatMap (eI .u8)) w.heap.size k
 | [],_,_=>by simp [Eg,Al]
 | b::l,k,h=>by
   have hk:k<s.length:=by grind [List.drop_eq_nil_of_le]
   have hb:s.getD k 0=b:=by have:=congrArg (fun l=>l.head?) h;grind [List.head?_drop]
   have hd:s.drop (k+1)=l:=by have:=congrArg List.tail h;simpa using this
   simp only [Eg,map_cons,flatMap_cons,eI,List.cons_append,List.nil_append,Al,Ae];refine⟨⟨_,Lib.bytesWorld_cell w e ⟨s.toArray⟩ k (by simpa [ByteArray.size] using hk),?_⟩,Rt s l (k+1) hd⟩;simp only [getD_eq_getElem?_getD]at hb;simp [getD_eq_getElem?_getD,hb]
theorem DL.bytes {P:Program} {I:World->Prop} {o:Oper} {st:St} {K:St->Prop} {x:Operand} {src dst:TypeId} (e:TypeId) (s:List UInt8)
 (ho:o.op= .convert src dst x) (hlen:s.length<=140737488355328) (hK:K (st.put o.dst (vL (eI .u8) (Eg s)))) (ha:st.ev x= .c (.str s):=by kernel_rfl)
 (hs:FC P src=true:=by kernel_rfl) (hd:py P dst=some e:=by kernel_rfl):DL P I o st K:=by
 intro F a w G Q hI hR;obtain⟨h1,h2⟩:=mW hd;have hx:=hR.ev x;rw [ha]at hx;simp only [Ab,Ae]at hx;obtain⟨u,hu⟩: ∃ u,P.underlying src=some u:=by unfold FC at hs;grind
 have s_:(execOp a.eval o).run P w= .ok (.value (.slice (some ⟨w.heap.size,0,none⟩) s.length (grownCap w s.length 0 e))) (Lib.bytesWorld w e ⟨s.toArray⟩):=by simp_all [Lib.run_convert_string_bytes,execOp,ByteArray.size]
 refine AK s_ ⟨_,G,hK,?_⟩;have hb:=Lib.bytesWorld_below w e ⟨s.toArray⟩;refine(hR.same (Et hb) (FY hb)).put ?_;have hl:(Eg s).length =s.length:=by simp [Eg]
 simp only [Ab,Ae,hl];refine⟨(by grind [AV,eI,Am,C.pure]),_,_,rfl,grownCap_ge _ _ _ _,(by grind [grownCap_le_maxLen,maxLen]),fun h0=>?_, .inr ⟨w.heap.size,0,rfl,fun hw=>absurd (hR.aiu hw) (by omega),?_,Rt s s 0 rfl⟩⟩
 all_goals grind [Lib.bytesWorld_size]
end Go.PL
namespace Go.PL
open Go Go.RowKit
theorem DL.ahC {P:Program} {I:World->Prop} {o:Oper} {st:St} {K:St->Prop} {t ty:TypeId} {x:Operand} {len:Nat} {cs:List C}
 (ho:o.op= .binOp .eql t x (.const (.slice none 0 0)) ty) (hK: ∀ b,(b=true->len=0)->K (st.put o.dst (vB b)))
 (hx:st.ev x= .c (.sl len cs):=by kernel_rfl) (ht:Fa P t=true:=by kernel_rfl):DL P I o st K:=by
 intro F a w G Q hI hR;obtain⟨e,hu⟩:=Fb ht;have hv:=hR.ev x;rw [hx]at hv;simp only [Ab,Ae]at hv;obtain⟨_,p,cap,he,_,_,_,hz⟩:=hv;have s_:(execOp a.eval o).run P w= .ok (.value (.bool p.isNone)) w:=by have hq:=run_equal_slice_nil (P:=P) w t e p len cap hu;have hc:a.eval (.const (.slice none 0 0))= .slice none 0 0:=rfl;simp_all [execOp,eqGuard,binOp]
 refine AK s_ ⟨_,G,hK p.isNone (fun hp=>?_),hR.put (by simp only [Ab,Ae])⟩;grind
end Go.PL
namespace Go.PL
open Go Go.RowKit
structure BW (P:Program) (I:World->Prop) (f:FuncId) (args:List V) (E n:Nat) (Q:Nat->List C->Prop):Prop where
 ent:ent P f=true
 run: ∀ (w:World) (vs:Array Value) (av:Nat->Prop),I w->(∀ b,av b->b<w.heap.size)->As w (im av) args vs.toList->
  Calls P f vs w (fun e w'=> ∃ v len cs us,e= .returned v/\Q len cs/\Am cs=true/\cs.length=len*n/\
   ((∃ p,v= .slice p 0 0/\len=0)\/Ai w' (im fun b=>av b\/v.ownBlock=some b) cs us/\w'.ownsRow w.heap.size E n v len us)/\Below w.heap.size w w')
def AgA (st:St) (t:Nat) (E n:Nat) (Q:Nat->List C->Prop):Prop:=
 (∃ id e len,st.get t= .c (.j_ id)/\st.look id=some e/\e.row=some (E,n,len)/\Am e.cs=true/\Q len e.cs)\/(st.get t= .c .L_ /\Q 0 [])
theorem BW.of {P:Program} {I:World->Prop} (hst:J8 I) {f:FuncId} {fn:Func} {c:Code} {args:List V} {E n t m:Nat} {Q:Nat->List C->Prop} (abh:PL.ent P f=true) (hf:P.funcs[f]? =some fn) (hb:fn.body=some c)
 (hr:fn.results= #[.tmp t]) (hn:fn.ntmps=m)
 (h: ∀ w0 av old gv,Ad P ⟨w0,av,old,I,gv⟩ c (St.start args m) (fun e a_=>(e= .normal \/e= .ret)/\AgA a_ t E n Q)):BW P I f args E n Q:=by
 refine⟨abh,fun w vs av hI hav abQ=>calls_of_wp hf hb ?_⟩;subst hn;have hR:=R.start hst hI hav abQ fn.ntmps;refine Code.wp_mono (fun e a' w' ⟨a_,G',⟨he,q⟩,hR'⟩=>?_) (h _ _ _ _ _ _ _ hR);have fin:a'.defers=[]/\ ∃ v,(results fn a'.tmps).run P w'= .ok v w'/\(fun(e:Ending) w''=> ∃ v len cs us,e= .returned v/\Q len cs/\Am cs=true/\cs.length=len*n/\
  ((∃ p,v= .slice p 0 0/\len=0)\/Ai w'' (im fun b=>av b\/v.ownBlock=some b) cs us/\w''.ownsRow w.heap.size E n v len us)/\Below w.heap.size w w'') (.returned v) w':=by
  have axq:(results fn a'.tmps).run P w'= .ok (a'.tmps.getD t Go.undef) w':=by simp_all [Gt,J9]
  refine⟨hR'.dfr,_,axq,?_⟩;have at0:=hR'.below (fun _ hx=>hx);have hsl:=hR'.w_ t;rcases q with ⟨id,e,len,q1,q2,q3,q4,q5⟩ | ⟨q1,q2⟩
  ·have alX:Ab w' G' (a_.get t) (a'.tmps.getD t Go.undef):=hsl;rw [q1]at alX;simp only [Ab,Ae]at alX;obtain⟨hm,hid⟩:=Bi q2;obtain⟨v,us,k1,k2,k3,k4⟩:=DI q3 (hR'.store e hm);have hE:=hR'.store e hm;have hl:e.cs.length=len*n:=by grind [Ba]
   rw [hid]at k1;rw [k1]at alX;have hv:v=a'.tmps.getD t Go.undef:=by grind
   refine⟨_,len,e.cs,us,rfl,q5,q4,hl,?_,at0⟩;rw [<-hv];rcases k4 with ⟨k4,k5⟩ | ⟨p,rfl,k5,_⟩
   ·refine .inr ⟨Ai.mono (G:=G') ⟨le_refl _,fun _ _ _=>rfl,fun b _ hw=>?_,fun _ _ _ _=>Co.same rfl⟩ _ _ (fun i hi=>absurd (show BU i e.cs=true from hi) (by rw [AQ i e.cs q4];simp)) k3,?_⟩
    ·rw [hR'.wr];have hw':av b\/v.ownBlock=some b:=hw;grind
    ·refine⟨k4.1,?_⟩;rcases k4.2 with ⟨q,h0⟩ | ⟨g,cap,cur,q,z1,z2,z3,z4,z5,z6⟩
     ·grind
     ·refine .inr ⟨g,cap,cur,q,?_,z2,z3,z4,z5,z6⟩;have hg:G'.o_ e.id=some g:=by rw [<-k5,q];rfl
      rcases hR'.new _ _ hg with q' | q'
      all_goals grind
   grind
  ·have alX:Ab w' G' (a_.get t) (a'.tmps.getD t Go.undef):=hsl;rw [q1]at alX;simp only [Ab,Ae]at alX;exact⟨_,0,[],[],rfl,q2,rfl,by simp,(by grind),at0⟩
 rcases he with rfl | rfl<;>exact fin
end Go.PL
namespace Go.PL
open Go Go.RowKit
theorem BW.flat {P:Program} {I:World->Prop} {f:FuncId} {args:List V} {E n k:Nat} {ds:List C} (h:BW P I f args E n (fun len cs=>len=k/\cs=ds)):BV P I f args (· = .c (.sl k ds)):=by
 refine⟨h.ent,fun w vs av hI hav hr=>(h.run w vs av hI hav hr).mono ?_⟩;rintro e w' ⟨v,len,cs,us,he,⟨rfl,rfl⟩,hp,hl,hv,hb⟩;refine⟨v,_,he,rfl,by simp only [V.pure,C.pure],?_,hb⟩;simp only [Ab,Ae];refine⟨hp,?_⟩;rcases hv with ⟨p,rfl,rfl⟩ | ⟨hr,aah⟩
 ·grind
 ·have h0:len=0->cs=[]:=fun h0=>(by simp_all);rcases aah.2 with ⟨q,q0⟩ | ⟨g,cap,cur,q,z1,z2,z3,z4,z5,z6⟩
  ·grind
  ·refine⟨_,cap,q,z3,z4,h0, .inr ⟨g,0,rfl,fun ha=>?_,(by grind),?_⟩⟩
   ·have:=hav g ha;omega
   ·refine Al.aau (vs:=us) ?_ (by grind [BE,take_append_drop]);exact Ai.mono (G:=im fun b=>av b\/v.ownBlock=some b) ⟨le_refl _,fun _ _ _=>rfl,fun b _ hw=> .inl hw,fun _ _ _ _=>Co.same rfl⟩ _ _ (fun i hi=>absurd (show BU i cs=true from hi) (by rw [AQ i cs hp];simp)) hr
end Go.PL
namespace Go.PL
open Go Go.RowKit
section
variable {P:Program} {F:Fr} {st:St}
def ui (Q:Exit->St->Prop):Exit->St->Prop
 | .goto _,_=>False
 | e,st=>Q e st
theorem Ad.label {l:Nat} {Q:Exit->St->Prop} (h:Q .normal st):Ad P F (.label l) st Q:=fun _ _ G hR=>wp_label ⟨st,G,h,hR⟩
theorem Ad.scope {c:Code} {Q:Exit->St->Prop} (h:Ad P F c st (ui Q)):Ad P F (.scope c) st Q:=
 fun a w G hR=>wp_scope_straight (Code.wp_mono (fun e a' w' ⟨a_,G',q,hR'⟩=>by
  cases e<;>simp only [Exit.noGoto,ui]at q ⊢ <;>first
   | exact q.elim
   | grind) (h a w G hR))
end
end Go.PL
namespace Go.PL
open Go Go.RowKit
end Go.PL
namespace Go.PL
open Go Go.RowKit Go.Lib
end Go.PL
namespace Go.PL
open Go Go.RowKit
section
variable {P:Program} {F:Fr} {st:St} {ops:Array Oper}
end
end Go.PL
namespace Go.PL
open Go Go.RowKit
end Go.PL
namespace Go.PL
open Go Go.RowKit Go.MapKept
section
variable {F:Fr} {st:St} {a:Act} {w:World} {G:AF}
end
section
variable {P:Program} {I:World->Prop} {o:Oper} {st:St} {K:St->Prop}
end
end Go.PL
namespace Go.PL
open Go Go.RowKit
theorem DL.aoy {P:Program} {I:World->Prop} {o:Oper} {st:St} {K:St->Prop} {x:Operand} {xs:List Operand} {c:Call} {s:Prop} {vs:List V} {f:FuncId} {cs:List C} {fn:Func} {body:Code} {n:Nat} {rs:List ResultVar} (k:Nat)
 (ho:o.op= .call c) (adK:c.callee= .value x) (hxs:c.args.toList=xs) (ha:st.args true xs=(s,vs)) (hs:s) (hf:st.ev x= .c (.bmv f cs)) (abh:ent P f=true) (hfn:P.funcs[f]? =some fn) (hb:fn.body=some body) (hn:fn.ntmps=n) (hr:fn.results=rs.toArray)
 (h: ∀ w0 av old gv,Ad P ⟨w0,av,old,I,gv⟩ body (st.enter k (cs.map V.c++vs) n) (inQ P rs st.tm.length st.pre o.dst K)):DL P I o st K:=by
 intro F a w G Q hI hR;have abQ:As w G vs (xs.map a.eval):=by have:=hR.args (g:=true) rfl (xs:=xs) (by grind);grind
 obtain⟨arr,hev,hcs⟩: ∃ arr:Array Value,a.eval x= .func (.func f) arr #[]/\Ai w G cs arr.toList:=by have hx:=hR.ev x;grind [Ab,Ae]
 have s_:(execOp a.eval o).run P w= .ok (.enter f (arr++(xs.map a.eval).toArray)) w:=by
  have e:c.args.map a.eval=(xs.map a.eval).toArray :=by grind
  grind [execOp,resolve,Deferred.ofValue,invoke,ab4]
 unfold Oper.wp Oper.upon;rw [s_];simp only;obtain⟨w0,av,old,I',gv⟩:=F;simp only at hI;subst hI;have ae1:As w G (cs.map V.c++vs) (arr++(xs.map a.eval).toArray).toList :=by grind [Jj,ST]
 refine calls_of_wp hfn hb ?_;have hR0:=hR.enter k ae1 fn.ntmps;rw [hn]at hR0;rw [hn];refine Code.wp_mono (fun e a' w' ⟨a_,G',q,hR'⟩=>?_) (h _ _ _ _ _ _ _ hR0);have hrs:fn.results.toList=rs:=by rw [hr]
 have fin:(CI P a_ rs).1/\K (a_.back st.tm.length st.pre o.dst (CI P a_ rs).2)->
  a'.defers=[]/\ ∃ v,(results fn a'.tmps).run P w'= .ok v w'/\ir ⟨w0,av,old,I',gv⟩ K (a.put o.dst v) w':=by
  intro ⟨q1,q2⟩;rw [<-hrs]at q1 q2;obtain⟨v,k1,k2⟩:=MN hR' (fn:=fn) q1;refine⟨hR'.dfr,v,k1,_,G',q2,?_⟩;exact(R.back hR.dfr rfl hR' hR.size.symm st.pre).put k2
 cases e<;>simp only [inQ]at q<;>first | exact fin q | exact q.elim
end Go.PL
namespace Go.PL
open Go Go.RowKit
def stS:List V->Nat->List Nat->List V
 | [],_,_=>[]
 | v::vs,_,[]=>v::vs
 | v::vs,i,j::l=>match Nat.beq i j with
   | true=> .undef ::stS vs (i+1) l
   | false=>v::stS vs (i+1) (j::l)
def upS:List V->Nat->List (Nat×V)->List V
 | [],_,_=>[]
 | v::vs,_,[]=>v::vs
 | v::vs,i,(j,x)::l=>match Nat.beq i j with
   | true=>x::upS vs (i+1) l
   | false=>v::upS vs (i+1) ((j,x)::l)
inductive Dn where
 | k (n:Nat)
 | s (n:Nat) (l:List (Nat×C))
 | e (x:Au)
def upC:List C->Nat->List (Nat×C)->List C
 | [],_,_=>[]
 | v::vs,_,[]=>v::vs
 | v::vs,i,(j,x)::l=>match Nat.beq i j with
   | true=>x::upC vs (i+1) l
   | false=>v::upC vs (i+1) ((j,x)::l)
def AbQ:List Au->Nat->Au
 | [],_=>⟨[],none,[],false⟩
 | e::_,0=>e
 | _::l,n+1=>AbQ l n
def soD (old:List Au):List Dn->List Au
 | []=>[]
 | .k n::l=>AbQ old n::soD old l
 | .s n c::l=>(match AbQ old n with | ⟨i,r,cs,p⟩=>⟨i,r,upC cs 0 c,p⟩)::soD old l
 | .e x::l=>x::soD old l
def u (d:List Nat) (l:List (Nat×V)) (st:St):St:=⟨upS (stS st.tm 0 d) 0 l,st.so,st.gh,st.pre⟩
def uo (d:List Nat) (l:List (Nat×V)) (o:List Dn) (st:St):St:=⟨upS (stS st.tm 0 d) 0 l,soD st.so o,st.gh,st.pre⟩
def nA:Nat->List Stp
 | 0=>[]
 | n+1=> .a ::nA n
section
variable {P:Program} {F:Fr} {st:St} {id:Nat} {l:List Oper} {c:Code} {Q:Exit->St->Prop} {cs:List Prop} {K:St->Prop}
theorem Gg (ss:List Stp) (f:St->St) (hl:AX cs) (h:Ad P F c (f st) Q) (hr:jf (Jk P F.I false l.toArray l ss st) (f st)=some (cs,f st):=by kernel_rfl):Ad P F (.seq (.region id l.toArray false) c) st Q:=Ad.rg _ hr hl h
theorem Ge (ss:List Stp) (f:St->St) (hl:AX cs) (h:Q .normal (f st)) (hr:Jk P F.I false l.toArray l ss st=some (cs,f st):=by kernel_rfl):Ad P F (.region id l.toArray false) st Q:=Ad.reg hr hl h
theorem Gp {I:World->Prop} {ops:Array Oper} (n:Nat) (ss:List Stp) (f:St->St) (hc:AX cs) (hK:DY P I ops (l.drop n) (f st) K) (h:Jk P I false ops (l.take n) ss st=some (cs,f st):=by kernel_rfl):DY P I ops l st K:=Run.part n (f st) h hc hK
theorem Gw {I:World->Prop} {ops:Array Oper} (ss:List Stp) (f:St->St) (hc:AX cs) (hK:K (f st)) (h:Jk P I false ops l ss st=some (cs,f st):=by kernel_rfl):DY P I ops l st K:=Run.whole (f st) h hc hK
theorem Gs (f:St->St) (h:Ad P F c (f st) Q) (hl:Xe st (f st)=some (f st):=by kernel_rfl):Ad P F c st Q:=Ad.less (B8.t hl) h
theorem Gj {X:Type} (S:X->St->St) (Φ:X->Prop) {x y:Code} {Q:Exit->St->Prop} (hx:Ad P F x st (Cx (fun a_=> ∃ v,Φ v/\Wk a_ (S v st)) Q)) (hy: ∀ v,Φ v->Ad P F y (S v st) Q):Ad P F (.seq x y) st Q:=Sj (fun v=>S v st) Φ hx hy
theorem Gi {σ ρ:Type} {B:σ->Option (σ⊕ρ)} (S:σ->St->St) {N:Nat} {s0:σ} {o:ρ} {c:Code} {Q:Exit->St->Prop} (hi:PL.iter B N s0=some o) (hl:Wk st (S s0 st))
 (hb: ∀ s z,B s=some z->(∀ o',z= .inr o'->o'=o)->Ad P F c (S s st) (Cx (fun a_=> ∃ s',z= .inl s'/\Wk a_ (S s' st)) Q)):Ad P F (.loop c) st Q:=It (fun v=>S v st) hi hl hb
theorem hS {x y:Code} {Q:Exit->St->Prop} (h:Ad P F x st (Cx (fun a_=>Ad P F y a_ Q) Q)):Ad P F (.seq x y) st Q:=Ad.seq h
theorem hK (h:Q .normal st):Ad P F .skip st Q:=Ad.skip h
theorem hT (h:K st):Ad P F .skip st (Cx K Q):=Ad.skip h
theorem hR (h:Q .ret st):Ad P F .ret st Q:=Ad.ret h
theorem hE {id:Nat} (h:Q (.exit id) st):Ad P F (.exit id) st Q:=Ad.exit h
theorem hB {id:Nat} {c:Code} {Q:Exit->St->Prop} (h:Ad P F c st (Cr id Q)):Ad P F (.block id c) st Q:=Ad.block h
theorem hO {id:Nat} {ops:Array Oper} {Q:Exit->St->Prop} (h:DY P F.I ops ops.toList st (Q .normal)):Ad P F (.region id ops false) st Q:=Ad.region h
theorem Te {i:Nat} (h:Q (.exit i) st):Cx K Q (.exit i) st:=h
theorem qN {i:Nat} (h:Q .normal st):Cr i Q .normal st:=h
theorem qR {i:Nat} (h:Q .ret st):Cr i Q .ret st:=h
theorem qX {i:Nat} (h:Q .normal st):Cr i Q (.exit i) st:=Cr.out h
end
section
variable {α:Type} {e x:α}
theorem kB {e b:Bool} (h:some e=some b):vB e=vB b:=congrArg vB (sI h)
end
section
variable {α β γ δ ε:Type} {r:ε}
theorem bS2 {o:Option α} {f:α->Option β} {g:α->β->Option ε} (h:(o.bind fun x=>(f x).bind (g x))=some r): ∃ x,o=some x/\ ∃ y,f x=some y/\g x y=some r:=by obtain⟨x,hx,h⟩:=bS h;simp_all [bS]
theorem bS3 {o:Option α} {f:α->Option β} {g:α->β->Option γ} {k:α->β->γ->Option ε} (h:(o.bind fun x=>(f x).bind fun y=>(g x y).bind (k x y))=some r): ∃ x,o=some x/\ ∃ y,f x=some y/\ ∃ z,g x y=some z/\k x y z=some r:=by obtain⟨x,hx,h⟩:=bS h;simp_all [bS2]
theorem bS4 {o:Option α} {f:α->Option β} {g:α->β->Option γ} {k:α->β->γ->Option δ} {m:α->β->γ->δ->Option ε} (h:(o.bind fun x=>(f x).bind fun y=>(g x y).bind fun z=>(k x y z).bind (m x y z))=some r): ∃ x,o=some x/\ ∃ y,f x=some y/\ ∃ z,g x y=some z/\ ∃ w,k x y z=some w/\m x y z w=some r:=by obtain⟨x,hx,h⟩:=bS h;simp_all [bS3]
end
section
variable {P:Program} {F:Fr} {st:St} {K:St->Prop}
theorem iC {cc:Operand} {x y:Code} {Q:Exit->St->Prop} {β:Type} {b:Bool} {X Y:Option β} {r:β} (h:(if b then X else Y)=some r) (h1:X=some r->Ad P F x st Q) (h2:Y=some r->Ad P F y st Q) (hc:st.ev cc= .c (.bool b):=by kernel_rfl):Ad P F (.cond cc x y) st Q:=
 Ad.ifB b hc (by grind) (by grind)
end
theorem BV.bo {P:Program} {I:World->Prop} (agt:J8 I) {f:FuncId} {fn:Func} {c:Code} {args:List V} {Q:V->Prop} {n:Nat} (hf:P.funcs[f]? =some fn) (hb:fn.body=some c) (hn:fn.ntmps=n) (rs:List ResultVar)
 (h: ∀ w0 av old gv,Ad P ⟨w0,av,old,I,gv⟩ c (St.start args n) (fun e a_=>(e= .normal \/e= .ret)/\(DH P a_ rs).1/\(DH P a_ rs).2.pure =true/\Q (DH P a_ rs).2))
 (abh:PL.ent P f=true:=by kernel_rfl) (hr:fn.results=rs.toArray:=by kernel_rfl):BV P I f args Q:=BV.body agt abh hf hb hn hr rfl h
end Go.PL
namespace Go.PL
open Go Go.RowKit
end Go.PL
namespace Go.PL
open Go Go.RowKit
def Oa (I:World->Prop) (g:Nat) (tab:List (List UInt8)):Prop:= ∀ w,I w-> ∃ T fz,w.heap[g]? =some (.cells (tab.map fun s=>Value.string ⟨s.toArray⟩).toArray T fz)
theorem R.I {F:Fr} {st:St} {a:Act} {w:World} {G:AF} (h:R F st a w G):F.I w:=h.inv w h.v_ h.ext
theorem UX {I:World->Prop} {g:Nat} {tab:List (List UInt8)} (h:Oa I g tab) {w:World} (hw:I w) {i:Nat} (hi:i<tab.length):w.cell? ⟨g,i,none⟩=some (.string ⟨(tab.getD i []).toArray⟩):=by obtain⟨T,fz,hh⟩:=h w hw;grind [World.cell?]
section
variable {P:Program} {I:World->Prop} {o:Oper} {st:St} {K:St->Prop}
theorem DL.aub {t:TypeId} {x:Operand} {g n:Nat} {k:IntKind} {i:Int} {E:TypeId} (ho:o.op= .indexAddr t (.global g) x) (hi:0<=i/\i<n) (hK:K (st.put o.dst (.c (.afy g i.toNat))))
 (hx:st.ev x= .c (.int k i):=by kernel_rfl) (ht:GK P t=some (n,E,1):=by kernel_rfl):DL P I o st K:=by
 intro F a w G Q hI hR;have U_:=hR.ev x;rw [hx]at U_;simp only [Ab,Ae]at U_;have s_:(execOp a.eval o).run P w= .ok (.value (.pointer (some ⟨g,i.toNat,none⟩))) w:=by have:=JV ht g 0 k i hi.1 hi.2 w;rw [zero_add,Nat.mul_one]at this;have hgl:a.eval (.global g)= .pointer (some ⟨g,0,none⟩):=rfl;simp_all [execOp]
 exact AK s_ ⟨_,G,hK,hR.put (by simp only [Ab,Ae])⟩
theorem DL.aua {t:TypeId} {x:Operand} {g off:Nat} {tab:List (List UInt8)} (ho:o.op= .load t x) (hg:Oa I g tab) (ace:off<tab.length) (hK:K (st.put o.dst (.c (.str (tab.getD off [])))))
 (hx:st.ev x= .c (.afy g off):=by kernel_rfl) (ht:KS P t=some (false,1):=by kernel_rfl):DL P I o st K:=by
 intro F a w G Q hI hR;have U_:=hR.ev x;rw [hx]at U_;simp only [Ab,Ae]at U_;obtain⟨d,i,hu,hd,_⟩:=Dc ht;have hc:=UX hg (hI▸hR.I) ace;have s_:(execOp a.eval o).run P w= .ok (.value (.string ⟨(tab.getD off []).toArray⟩)) w:=by simp_all [execOp,D6]
 exact AK s_ ⟨_,G,hK,hR.put (by simp only [Ab,Ae])⟩
theorem cA {w:World} {G:AF}: ∀ tab:List (List UInt8),Ai w G (tab.map C.str) (tab.map fun s=>Value.string ⟨s.toArray⟩)
 | []=>by simp [Ai]
 | s::l=>by simp_all [Ai,Ae,cA]
theorem DL.ays {t:TypeId} {g:Nat} {tab:List (List UInt8)} (ho:o.op= .load t (.global g)) (hg:Oa I g tab) (hK:K (st.put o.dst (.agg (tab.map C.str))))
 (ht:KS P t=some (true,tab.length):=by kernel_rfl):DL P I o st K:=by
 intro F a w G Q hI hR;obtain⟨d,i,hu,hd,hi,hsz⟩:=Dc ht;have hw:I w:=hI▸hR.I;have s_:(execOp a.eval o).run P w= .ok (.value (.agg (tab.map fun s=>Value.string ⟨s.toArray⟩).toArray)) w:=by
  have:=run_loadAt_mid (P:=P) w g 0 t (tab.map fun s=>Value.string ⟨s.toArray⟩) d (fun j v hj=>by
   have hjl:j<tab.length:=by grind
   rw [zero_add,UX hg hw hjl];grind) hu hd (by grind)
  have hgl:a.eval (.global g)= .pointer (some ⟨g,0,none⟩):=rfl;simp_all [execOp]
 exact AK s_ ⟨_,G,hK,hR.put (by simp only [Ab];exact⟨_,rfl,by simpa using cA tab⟩)⟩
end
end Go.PL
namespace Go.PL
open Go Go.RowKit
section
variable {α:Type} {l l':List (List α)} {i j:Int} {x:List α} {y y':α} {e:α->List C} {E n:Nat}
end
section
variable {P:Program} {F:Fr} {st:St}
end
end Go.PL
namespace Go.PL
open Go Go.RowKit
inductive Kd where
 | int (k:IntKind)
 | bool
 | str
 | t_ (E:Nat)
def Pa (den:Nat->Type):Kd->Type
 | .int _=>Int
 | .bool =>Bool
 | .str =>List UInt8
 | .t_ E=>List (den E)
def DK (den:Nat->Type):List Kd->Type
 | []=>Unit
 | k::ks=>Pa den k×DK den ks
def Bk {den:Nat->Type} (enc: ∀ E,den E->List C):(k:Kd)->Pa den k->C
 | .int k,n=> .int k n
 | .bool,b=> .bool b
 | .str,s=> .str s
 | .t_ E,l=> .sl l.length (List.flatMap (enc E) l)
def BG {den:Nat->Type} (enc: ∀ E,den E->List C):(ks:List Kd)->DK den ks->List C
 | [],_=>[]
 | k::ks,x=>Bk enc k x.1::BG enc ks x.2
structure Bm where
 den:Nat->Type
 inh: ∀ E,Inhabited (den E)
 enc: ∀ E,den E->List C
 ks:Nat->List Kd
 un: ∀ E,den E->DK den (ks E)
 bd: ∀ E,DK den (ks E)->den E
 beq: ∀ E,den E->den E->Bool
 aet: ∀ E y,un E (bd E y)=y
 aaT: ∀ E x,BG enc (ks E) (un E x)=enc E x
 ain: ∀ E x y,beq E x y=B0 (enc E x) (enc E y)
variable {T:Bm}
instance (E:Nat):Inhabited (T.den E):=T.inh E
def Bm.sz (T:Bm) (E:Nat):Nat:=(T.ks E).length
inductive DC (T:Bm) where
 | c (x:C)
 | k (kd:Kd) (x:Pa T.den kd)
 | ip (E:Nat) (l:List (T.den E)) (i:Int) (x:T.den E) (off:Nat)
 | rp (id:Ah) (N:Nat) (i:Int) (off:Nat)
 | ap (id:Ah) (base n E:Nat) (i:Int) (off:Nat)
 | bs (id:Ah) (E:Nat) (o n:Int)
 | clo (b:Bool) (f:FuncId) (cs:List (DC T))
mutual
def DC.toC:DC T->C
 | .c x=>x
 | .k kd x=>Bk T.enc kd x
 | .ip E l i _ off=> .aby (l.flatMap (T.enc E)) (i.toNat*T.sz E+off)
 | .rp id N i off=> .ptr id (i.toNat*N+off)
 | .ap id base _ E i off=> .ptr id (base+i.toNat*T.sz E+off)
 | .bs id E o n=> .rsl id (T.sz E) o.toNat n.toNat
 | .clo true f cs=> .bmv f (Av cs)
 | .clo false f cs=> .clo f (Av cs)
def Av:List (DC T)->List C
 | []=>[]
 | c::cs=>c.toC::Av cs
end
theorem CP: ∀ cs:List (DC T),Av cs=cs.map DC.toC
 | []=>by simp [Av]
 | c::cs=>by simp [Av,CP cs]
structure GL where
 t:Nat
 w:Bool
 b:Bool
def Bb:List GL->Bool
 | []=>true
 | [l]=>l.b
 | l::l'::ls=>Bb (l'::ls)&&l.b
theorem Kg: ∀ {k:List GL},Bb k=true↔ ∀ l∈k,l.b=true
 | []=>by simp [Bb]
 | [l]=>by simp [Bb]
 | l::l'::ls=>by simp only [Bb,and_eq_true,Kg (k:=l'::ls),mem_cons];grind
inductive DV (T:Bm) where
 | c (x:DC T)
 | agg (cs:List (DC T))
 | tup (vs:List (DV T))
 | g (key:List GL) (v:DV T)
 | u
mutual
def DV.toV:DV T->V
 | .c x=> .c x.toC
 | .agg cs=> .agg (Av cs)
 | .tup vs=> .tup (Be vs)
 | .g key v=> .g (Bb key) v.toV
 | .u => .undef
def Be:List (DV T)->List V
 | []=>[]
 | v::vs=>v.toV::Be vs
end
theorem Ob: ∀ vs:List (DV T),Be vs=vs.map DV.toV
 | []=>by simp [Be]
 | v::vs=>by simp [Be,Ob vs]
def Xf (T:Bm):(k:Kd)->Pa T.den k->C
 | .t_ E,l=> .isl E (T.sz E) l.length (List.flatMap (T.enc E) l)
 | .int k,n=> .int k n
 | .bool,b=> .bool b
 | .str,s=> .str s
def BX (T:Bm):(ks:List Kd)->DK T.den ks->List C
 | [],_=>[]
 | k::ks,x=>Xf T k x.1::BX T ks x.2
def Bm.aaV (T:Bm) (E:Nat) (x:T.den E):List C:=BX T (T.ks E) (T.un E x)
def AC (T:Bm) (E:Nat) (n:Int):Int->List (T.den E)->List C
 | _,[]=>[]
 | k,x::l=>(if k<n then T.aaV E x else T.enc E x)++AC T E n (k+1) l
def Bp (T:Bm) (E:Nat) (n:Int) (l:List (T.den E)):Option (Int×Nat)->List C
 | none=>AC T E n 0 l
 | some (i,off)=>(AC T E n 0 l).set (i.toNat*T.sz E+off) .any
inductive DX (T:Bm) where
 | box (cs:List (DC T))
 | row (E:Nat) (l:List (T.den E))
 | deep (E:Nat) (n:Int) (l:List (T.den E)) (h:Option (Int×Nat))
structure DE (T:Bm) where
 id:Ah
 tag:Nat
 x:DX T
def DE.toE (e:DE T):Au:=match e.x with
 | .box cs=>⟨e.id,none,Av cs,false⟩
 | .row E l=>⟨e.id,some (E,T.sz E,l.length),l.flatMap (T.enc E),true⟩
 | .deep E n l h=>⟨e.id,some (E,T.sz E,l.length),Bp T E n l h,true⟩
theorem DE.toE_id (e:DE T):e.toE.id=e.id:=by grind [DE.toE]
abbrev Tm (T:Bm):=List (Nat×Nat×DV T)
def lk:Tm T->Nat->DV T
 | [],_=> .u
 | (s,_,v)::r,i=>match Nat.beq s i with
   | true=>v
   | false=>lk r i
def Xg:Tm T->Nat->Nat
 | [],_=>0
 | (s,t,_)::r,i=>match Nat.beq s i with
   | true=>t+1
   | false=>Xg r i
def AE (m:Nat) (tm:Tm T):List V:=(List.range m).map fun i=>(lk tm i).toV
structure Af (T:Bm) where
 m:Nat
 tm:Tm T
 so:List (DE T)
 gh:List (Nat×Tm T)
 pre:Ah
 nx:Nat
def Af.toSt (st:Af T):St:=⟨AE st.m st.tm,st.so.map DE.toE,st.gh.flatMap fun f=>AE f.1 f.2,st.pre⟩
mutual
def DC.ok:DC T->Prop
 | .ip _ l i x _=>idx l i=some x
 | .bs _ _ o n=>0<=o/\0<=n
 | .clo _ _ cs=>Cl cs
 | _=>True
def Cl:List (DC T)->Prop
 | []=>True
 | c::cs=>c.ok/\Cl cs
end
theorem De: ∀ {cs:List (DC T)},Cl cs↔ ∀ c∈cs,c.ok
 | []=>by simp [Cl]
 | c::cs=>by simp [Cl,De (cs:=cs)]
structure Ax (T:Bm) where
 v:Nat->DV T
 e:Nat->DE T
def eV:DV T->Bool
 | .c (.k .bool b)=>b
 | .g _ (.c (.k .bool b))=>b
 | _=>false
def GL.ok (H:Ax T) (nx:Nat) (l:GL):Prop:=l.t<nx/\l.b=(eV (H.v l.t)==l.w)
mutual
def DV.ok (H:Ax T) (nx:Nat):DV T->Prop
 | .c x=>x.ok
 | .agg cs=>Cl cs
 | .tup vs=>CZ H nx vs
 | .g key v=>(∀ l∈key,l.ok H nx)/\(Bb key=true->v.ok H nx)
 | .u =>True
def CZ (H:Ax T) (nx:Nat):List (DV T)->Prop
 | []=>True
 | v::vs=>v.ok H nx/\CZ H nx vs
end
theorem Oc {H:Ax T} {nx:Nat}: ∀ {vs:List (DV T)},CZ H nx vs↔ ∀ v∈vs,v.ok H nx
 | []=>by simp [CZ]
 | c::cs=>by simp [CZ,Oc (vs:=cs)]
def Qk (H:Ax T) (nx:Nat) (tm:Tm T):Prop:= ∀ s t v,(s,t,v)∈tm->t<nx/\H.v t=v/\v.ok H nx
def DX.ok:DX T->Prop
 | .box cs=>Cl cs
 | .row _ _=>True
 | .deep .. =>True
structure AI (H:Ax T) (st:Af T):Prop where
 tm:Qk H st.nx st.tm
 gh: ∀ f∈st.gh,Qk H st.nx f.2
 so: ∀ e∈st.so,e.tag<st.nx/\H.e e.tag=e/\e.x.ok
 nd:(st.so.map DE.id).Nodup
def Da (nx:Nat) (H H':Ax T):Prop:= ∀ t,t<nx->H'.v t=H.v t/\H'.e t=H.e t
theorem Da.refl (nx:Nat) (H:Ax T):Da nx H H:=fun _ _=>⟨rfl,rfl⟩
theorem Da.trans {n m:Nat} {A B D:Ax T} (h:Da n A B) (k:Da m B D) (hnm:n<=m):Da n A D:=fun t ht=>
 ⟨(k t (by grind)).1.trans (h t ht).1,(k t (by grind)).2.trans (h t ht).2⟩
theorem GL.acI {H H':Ax T} {n m:Nat} (he:Da n H H') (hnm:n<=m) {l:GL} (h:l.ok H n):l.ok H' m:=
 ⟨Nat.lt_of_lt_of_le h.1 hnm,by rw [(he l.t h.1).1];exact h.2⟩
mutual
theorem DV.acI {H H':Ax T} {n m:Nat} (he:Da n H H') (hnm:n<=m): ∀ {v:DV T},v.ok H n->v.ok H' m
 | .c _,h=>by grind [DV.ok]
 | .agg _,h=>by grind [DV.ok]
 | .tup vs,h=>by simp only [DV.ok]at h ⊢;exact jq he hnm h
 | .g key v,h=>by simp only [DV.ok]at h ⊢;exact⟨fun l hl=>GL.acI he hnm (h.1 l hl),fun q=>DV.acI he hnm (h.2 q)⟩
 | .u,_=>by simp only [DV.ok]
theorem jq {H H':Ax T} {n m:Nat} (he:Da n H H') (hnm:n<=m): ∀ {vs:List (DV T)},CZ H n vs->CZ H' m vs
 | [],_=>by simp only [CZ]
 | v::vs,h=>by simp only [CZ]at h ⊢;exact⟨DV.acI he hnm h.1,jq he hnm h.2⟩
end
theorem B3 {H H':Ax T} {n m:Nat} (he:Da n H H') (hnm:n<=m) {tm:Tm T} (h:Qk H n tm):Qk H' m tm:=fun s t v hm=>by obtain⟨h1,h2,h3⟩:=h s t v hm;exact⟨(by grind),by rw [(he t h1).1];exact h2,DV.acI he hnm h3⟩
theorem Ru (tm:Tm T) (i:Nat):lk tm i= .u /\Xg tm i=0\/ ∃ t,(i,t,lk tm i)∈tm/\Xg tm i=t+1:=by
 induction tm with
 | nil=>exact .inl ⟨rfl,rfl⟩
 | cons x r ih=>
   obtain⟨s,t,v⟩:=x;simp only [lk,Xg];cases hb:Nat.beq s i with
   | true=>
     simp_all
   | false=>
     grind
theorem Aeo {H:Ax T} {nx:Nat} {tm:Tm T} (h:Qk H nx tm) (i:Nat):(lk tm i).ok H nx:=by
 rcases Ru tm i with ⟨h1,_⟩ | ⟨t,h1,_⟩
 ·grind [DV.ok]
 ·exact(h i t _ h1).2.2
theorem Xh {H:Ax T} {nx:Nat} {tm:Tm T} (h:Qk H nx tm) {i t:Nat} (ht:Xg tm i=t+1):t<nx/\H.v t=lk tm i:=by
 rcases Ru tm i with ⟨_,h1⟩ | ⟨t',h1,h2⟩
 ·grind
 ·rw [h2]at ht;injection ht with ht;subst ht;obtain⟨a,b,_⟩:=h i t' _ h1;grind
def UY:Value->Option (DC T)
 | .int k n=>some (.k (.int k) n)
 | .bool b=>some (.k .bool b)
 | .string s=>some (.k .str s.data.toList)
 | v=>match CY v with
   | some c=>some (.c c)
   | none=>none
def Kh:List Value->Option (List (DC T))
 | []=>some []
 | v::vs=>match UY v,Kh vs with
   | some c,some cs=>some (c::cs)
   | _,_=>none
def S2:Value->DV T
 | .agg cs=>match Kh cs.toList with
   | some l=> .agg l
   | none=> .u
 | v=>match UY v with
   | some c=> .c c
   | none=> .u
theorem Xi {v:Value} {c:DC T} (h:UY v=some c):CY v=some c.toC/\c.ok:=by
 unfold UY at h;split at h
 ·injection h with h;subst h;exact⟨rfl,by simp only [DC.ok]⟩
 ·injection h with h;subst h;exact⟨rfl,by simp only [DC.ok]⟩
 ·injection h with h;subst h;exact⟨rfl,by simp only [DC.ok]⟩
 grind [DC.toC,DC.ok]
theorem Xj {v:Value} (h:UY (T:=T) v=none):CY v=none:=by unfold UY at h;grind
theorem Od: ∀ {vs:List Value} {cs:List (DC T)},Kh vs=some cs->Ee vs=some (Av cs)/\Cl cs
 | [],cs,h=>by grind [Kh,Ee,Av,Cl]
 | v::vs,cs,h=>by
   unfold Kh at h;split at h
   ·rename_i c cs' h1 h2;injection h with h;subst h;obtain⟨a,b⟩:=Xi h1;obtain⟨a',b'⟩:=Od h2;simp [Ee,a,a',Av,Cl,b,b']
   ·cases h
theorem UZ: ∀ {vs:List Value},Kh (T:=T) vs=none->Ee vs=none
 | [],h=>by simp [Kh]at h
 | v::vs,h=>by
   unfold Kh at h;split at h
   ·cases h
   ·rename_i Tg;unfold Ee;cases h1:UY (T:=T) v with
    | none=>rw [Xj h1]
    | some c=>
      cases h2:Kh (T:=T) vs with
      | none=>rw [UZ h2];cases CY v<;>rfl
      | some cs=>exact(Tg c cs h1 h2).elim
theorem U0 (v:Value) {H:Ax T} {nx:Nat}:(S2 (T:=T) v).toV =MK v/\(S2 (T:=T) v).ok H nx:=by
 cases v
 case agg cs=>
  simp only [S2,MK];cases h:Kh (T:=T) cs.toList with
  | some l=>
    obtain⟨a,b⟩:=Od h;simp_all [DV.toV,DV.ok]
  | none=>simp only [UZ h,DV.toV,DV.ok];grind
 all_goals
  simp only [S2,MK];split
  ·rename_i c h;obtain⟨a,b⟩:=Xi h;simp only [a,DV.toV,DV.ok];exact⟨trivial,b⟩
  ·rename_i h;simp only [Xj h,DV.toV,DV.ok];exact(by grind)
def Af.get (st:Af T) (t:Nat):DV T:=match Nat.blt t st.m with
 | true=>lk st.tm t
 | false=> .u
def Af.ev (st:Af T):Operand->DV T
 | .tmp t=>st.get t
 | .const v=>S2 v
 | .func f=> .c (.c (.fn f))
 | .global _=> .u
theorem L8 (m:Nat) (tm:Tm T) (t:Nat):(AE m tm).getD t .undef =(match Nat.blt t m with | true=>(lk tm t).toV | false=> .undef):=by
 unfold AE;rw [getD_eq_getElem?_getD,getElem?_map];cases hb:Nat.blt t m with
 | true=>
   simp_all
 | false=>
   have: ¬t<m:=by
    intro h;have h2:Nat.blt t m=true:=by simpa using h
    grind
   grind
theorem Af.aaZ (st:Af T) (t:Nat):st.toSt.get t=(st.get t).toV :=by show (AE st.m st.tm).getD t .undef =_;grind [L8,Af.get,DV.toV]
theorem Af.af2 {H:Ax T} {st:Af T} (h:AI H st) (t:Nat):(st.get t).ok H st.nx:=by
 unfold Af.get;split
 ·exact Aeo h.tm t
 ·simp only [DV.ok]
theorem Af.abD (st:Af T) (x:Operand):st.toSt.ev x=(st.ev x).toV :=by
 cases x with
 | tmp t=>exact st.aaZ t
 | const v=>exact(U0 (T:=T) v (H:=⟨fun _=> .u,fun _=>⟨[],0, .box []⟩⟩) (nx:=0)).1.symm
 | func f=>simp only [St.ev,Af.ev,DV.toV,DC.toC]
 | global g=>simp only [St.ev,Af.ev,DV.toV]
theorem Af.als {H:Ax T} {st:Af T} (h:AI H st) (x:Operand):(st.ev x).ok H st.nx:=by cases x<;>grind [Af.af2,U0,Af.ev,DV.ok,DC.ok]
def GL.eq (a b:GL):Bool:=Nat.beq a.t b.t&&(a.w==b.w)
def Xk (l:GL):List GL->Bool
 | []=>false
 | a::r=>match GL.eq l a with
   | true=>true
   | false=>Xk l r
def Ql:List GL->List GL->Bool
 | [],_=>true
 | l::ls,k=>match Xk l k with
   | true=>Ql ls k
   | false=>false
def FE (H:Ax T) (nx:Nat) (k:List GL):Prop:= ∀ l∈k,l.ok H nx
theorem GL.ayu {H:Ax T} {nx:Nat} {a b:GL} (h:a.eq b=true) (ha:a.ok H nx) (hb:b.ok H nx):a.b=b.b:=by simp only [GL.eq,and_eq_true,beq_eq,beq_iff_eq]at h;rw [ha.2,hb.2,h.1,h.2]
theorem jr {H:Ax T} {nx:Nat} {l:GL}: ∀ {k:List GL},Xk l k=true->l.ok H nx->FE H nx k->Bb k=true->l.b=true
 | [],h,_,_,_=>by simp [Xk]at h
 | a::r,h,hl,hk,hc=>by
   unfold Xk at h;have hc':=Kg.1 hc;split at h
   ·rename_i he;rw [GL.ayu he hl (hk a (by simp))];exact hc' a (by simp)
   ·exact jr h hl (fun x hx=>hk x (by simp [hx])) (Kg.2 fun x hx=>hc' x (by simp [hx]))
theorem Oe {H:Ax T} {nx:Nat}: ∀ {ls k:List GL},Ql ls k=true->FE H nx ls->FE H nx k->Bb k=true->Bb ls=true
 | [],_,_,_,_,_=>rfl
 | l::ls,k,h,h1,h2,hc=>by
   unfold Ql at h;split at h
   ·rename_i hh;have a:=jr hh (h1 l (by simp)) h2 hc;have b:=Oe h (fun x hx=>h1 x (by simp [hx])) h2 hc;refine Kg.2 fun x hx=>?_;rcases mem_cons.1 hx with rfl | hx
    all_goals grind [Kg]
   ·cases h
def Af.arg (st:Af T) (key:List GL) (x:Operand):Option (DV T):=match st.ev x with
 | .g k v=>match Ql k key with
   | true=>some v
   | false=>none
 | v=>some v
theorem Af.ael {H:Ax T} {st:Af T} {key:List GL} {x:Operand} {v:DV T} (hw:AI H st) (hk:FE H st.nx key) (h:st.arg key x=some v) (hc:Bb key=true):
 v.ok H st.nx/\(st.toSt.arg (Bb key) x).1/\(st.toSt.arg (Bb key) x).2=v.toV:=by
 have hev:=Af.als hw x;have e:=st.abD x;unfold Af.arg at h;unfold St.arg;split at h
 ·rename_i k v' hx;split at h
  ·rename_i hs;injection h with h;subst h;rw [hx]at e hev;simp only [DV.ok]at hev;simp only [DV.toV]at e;rw [e];have:=Oe hs hev.1 hk hc;grind
  ·cases h
 ·rename_i Tg;injection h with h;subst h;refine⟨hev,?_⟩;rw [e];cases hv:st.ev x<;>simp_all [DV.toV]
def M (α:Type):=(R:Type)->(α->Option R)->Option R
namespace M
variable {α β:Type}
def ret (v:α):M α:=fun _ K=>K v
def no:M α:=fun _ _=>none
def sm (o:Option α):M α:=fun _ K=>match o with
 | some v=>K v
 | none=>none
def opt (o:Option β) (f:β->M α):M α:=fun R K=>o.bind fun x=>f x R K
def Q_ (m:M β) (f:β->M α):M α:=fun R K=>m R fun x=>f x R K
end M
def Yl {α:Type} (m:M α) (Φ:α->Prop):Prop:= ∀ (R:Type) (K:α->Option R) (r:R),m R K=some r-> ∃ v,Φ v/\K v=some r
namespace Yl
variable {α β:Type} {Φ:α->Prop}
theorem ret {v:α} (h:Φ v):Yl (M.ret v) Φ:=fun _ _ _ hr=>⟨v,h,hr⟩
theorem no:Yl (M.no) Φ:=fun _ _ _ hr=>by cases hr
theorem sm {o:Option α} (h: ∀ v,o=some v->Φ v):Yl (M.sm o) Φ:=fun R K r hr=>by unfold M.sm at hr;grind
theorem opt {o:Option β} {f:β->M α} (h: ∀ x,o=some x->Yl (f x) Φ):Yl (M.opt o f) Φ:=fun R K r hr=>by unfold M.opt at hr;obtain⟨x,h1,h2⟩:=bS hr;exact h x h1 R K r h2
theorem Q_ {m:M β} {f:β->M α} {Ψ:β->Prop} (hm:Yl m Ψ) (h: ∀ x,Ψ x->Yl (f x) Φ):Yl (M.Q_ m f) Φ:=fun R K r hr=>by obtain⟨v,h1,h2⟩:=hm R _ r hr;exact h v h1 R K r h2
theorem mono {m:M α} {Ψ:α->Prop} (hm:Yl m Ψ) (h: ∀ x,Ψ x->Φ x):Yl m Φ:=fun R K r hr=>by obtain⟨v,h1,h2⟩:=hm R K r hr;grind
end Yl
def gk {α:Type} [Inhabited α] (key:List GL) (o:Option α):Option α:=match key with
 | []=>o
 | l::ls=>gd (Bb (l::ls)) o
theorem Rv {α:Type} [Inhabited α] {key:List GL} {o:Option α} {x:α} (h:gk key o=some x) (hc:Bb key=true):o=some x:=by unfold gk at h;grind [mT]
end Go.PL
namespace Go.PL
open Go Go.RowKit
variable {T:Bm}
def U1 {den:Nat->Type} {T:Bm} (h: ∀ k,Pa den k->DC T):(ks:List Kd)->DK den ks->List (DC T)
 | [],_=>[]
 | k::ks,x=>h k x.1::U1 h ks x.2
def eW (E:Nat) (x:T.den E):List (DC T):=U1 (fun k y=> .k k y) (T.ks E) (T.un E x)
theorem Xl: ∀ (ks:List Kd) (y:DK T.den ks),Av (U1 (T:=T) (fun k y=> .k k y) ks y)=BG T.enc ks y
 | [],_=>by simp [U1,Av,BG]
 | k::ks,y=>by simp only [U1,Av,BG,Xl ks,DC.toC]
theorem GO (E:Nat) (x:T.den E):Av (eW E x)=T.enc E x:=by rw [eW,Xl,T.aaT]
theorem js: ∀ (ks:List Kd) (y:DK T.den ks),Cl (U1 (T:=T) (fun k y=> .k k y) ks y)
 | [],_=>by simp [U1,Cl]
 | k::ks,y=>by simp only [U1,Cl,DC.ok];exact⟨trivial,js ks y.2⟩
theorem MR (E:Nat) (x:T.den E):Cl (eW E x):=js _ _
theorem cB {den:Nat->Type} {enc: ∀ E,den E->List C}: ∀ (ks:List Kd) (y:DK den ks),(BG enc ks y).length =ks.length
 | [],_=>rfl
 | k::ks,y=>by simp [BG,cB ks]
theorem AS (E:Nat) (x:T.den E):(T.enc E x).length =T.sz E:=by rw [<-T.aaT,cB];rfl
theorem Xm {den:Nat->Type} {enc: ∀ E,den E->List C} (k:Kd) (x:Pa den k):(Bk enc k x).pure =true:=by cases k<;>rfl
theorem Xn {den:Nat->Type} {enc: ∀ E,den E->List C}: ∀ (ks:List Kd) (y:DK den ks),Am (BG enc ks y)=true
 | [],_=>rfl
 | k::ks,y=>by simp only [BG,Am,Xm,Xn ks,Bool.and_self]
theorem Xo (E:Nat) (x:T.den E):Am (T.enc E x)=true:=by rw [<-T.aaT];exact Xn _ _
theorem rz (E:Nat) (l:List (T.den E)):Am (l.flatMap (T.enc E))=true:=AV _ (Xo E) l
def Iq (L_:Bool):(k:Kd)->DC T->Option (Pa T.den k)
 | .int k, .k (.int k') n=>match k'==k with
   | true=>some n
   | false=>none
 | .bool, .k .bool b=>some b
 | .str, .k .str s=>some s
 | .t_ E, .k (.t_ E') l=>match Nat.decEq E' E with
   | .isTrue h=>some (show List (T.den E)from h▸l)
   | .isFalse _=>none
 | .t_ E, .c (.sl 0 [])=>some ([]:List (T.den E))
 | .t_ E, .c .L_ =>match L_ with
   | true=>some ([]:List (T.den E))
   | false=>none
 | _,_=>none
def cC (L_:Bool):(ks:List Kd)->List (DC T)->Option (DK T.den ks)
 | [],[]=>some ()
 | k::ks,c::cs=>match Iq L_ k c,cC L_ ks cs with
   | some x,some y=>some (x,y)
   | _,_=>none
 | _,_=>none
def tp (L_:Bool) (E:Nat) (cs:List (DC T)):Option (T.den E):=match cC L_ (T.ks E) cs with
 | some y=>some (T.bd E y)
 | none=>none
theorem CK {L_:Bool} {k:Kd} {c:DC T} {x:Pa T.den k} (h:Iq L_ k c=some x):Hj c.toC=Bk T.enc k x/\(L_=false->c.toC=Bk T.enc k x):=by
 unfold Iq at h;split at h
 ·split at h
  ·rename_i hb;have:=beq_iff_eq.1 hb;subst this;injection h with h;subst h;exact⟨rfl,fun _=>rfl⟩
  ·cases h
 ·injection h with h;subst h;exact⟨rfl,fun _=>rfl⟩
 ·injection h with h;subst h;exact⟨rfl,fun _=>rfl⟩
 ·split at h
  ·rename_i e _;subst e;injection h with h;subst h;exact⟨rfl,fun _=>rfl⟩
  ·cases h
 ·injection h with h;subst h;exact⟨rfl,fun _=>rfl⟩
 ·split at h
  ·injection h with h;subst h;exact⟨rfl,fun q=>by cases q⟩
  ·cases h
 ·cases h
theorem Xp {L_:Bool}: ∀ {ks:List Kd} {cs:List (DC T)} {y:DK T.den ks},cC L_ ks cs=some y->(Av cs).map Hj=BG T.enc ks y/\(L_=false->Av cs=BG T.enc ks y)
 | [],[],y,_=>by simp [Av,BG]
 | [],_::_,_,h=>by simp [cC]at h
 | _::_,[],_,h=>by simp [cC]at h
 | k::ks,c::cs,y,h=>by
   unfold cC at h;split at h
   ·rename_i x y' h1 h2;injection h with h;subst h;obtain⟨a1,a2⟩:=CK h1;obtain⟨b1,b2⟩:=Xp h2;simp_all [Av,BG]
   ·cases h
theorem Ir {L_:Bool} {E:Nat} {cs:List (DC T)} {x:T.den E} (h:tp L_ E cs=some x):(Av cs).map Hj=T.enc E x/\(L_=false->Av cs=T.enc E x):=by
 unfold tp at h;split at h
 ·rename_i y hy;injection h with h;subst h;rw [<-T.aaT,T.aet];exact Xp hy
 ·cases h
def LF (E:Nat):Nat->List (DC T)->Option (List (T.den E))
 | 0,_=>some []
 | n+1,cs=>match tp false E (cs.take (T.sz E)),LF E n (cs.drop (T.sz E))with
   | some x,some l=>some (x::l)
   | _,_=>none
theorem JE (n:Nat) (cs:List (DC T)):Av (cs.take n)=(Av cs).take n:=by simp [CP,List.map_take]
theorem Gv (n:Nat) (cs:List (DC T)):Av (cs.drop n)=(Av cs).drop n:=by simp [CP,List.map_drop]
theorem CT (a b:List (DC T)):Av (a++b)=Av a++Av b:=by simp [CP]
theorem AO (a:List (DC T)):(Av a).length =a.length:=by simp [CP]
theorem Ex {E:Nat}: ∀ {n:Nat} {cs:List (DC T)} {l:List (T.den E)},LF E n cs=some l->l.length=n/\ ∃ r,Av cs=l.flatMap (T.enc E)++r
 | 0,cs,l,h=>by simp [LF]at h;simp_all
 | n+1,cs,l,h=>by
   unfold LF at h;split at h
   ·rename_i x l' h1 h2;injection h with h;subst h;have a:=(Ir h1).2 rfl;obtain⟨b1,r,b2⟩:=Ex h2;refine⟨by simp [b1],r,?_⟩;rw [JE]at a;rw [Gv]at b2;rw [flatMap_cons,List.append_assoc, <-b2, <-a,take_append_drop]
   ·cases h
def C8 (ag:Bool) (off n:Nat) (cs:List (DC T)):DV T:=match ag with
 | true=> .agg ((cs.drop off).take n)
 | false=> .c (cs.getD off (.c .any))
theorem Hy (ag:Bool) (off n:Nat) (cs:List (DC T)):(C8 ag off n cs).toV =toV ag off n (Av cs):=by
 cases ag
 ·simp only [C8,DV.toV,toV,CP];rw [if_neg (by simp),getD_eq_getElem?_getD,getD_eq_getElem?_getD,getElem?_map];grind [DC.toC]
 grind [C8,DV.toV,toV,JE,Gv]
theorem S3 {cs:List (DC T)} (h:Cl cs) (n:Nat):Cl (cs.take n):=(by grind [De])
theorem S4 {cs:List (DC T)} (h:Cl cs) (n:Nat):Cl (cs.drop n):=(by grind [De])
theorem Df {a b:List (DC T)} (h:Cl a) (k:Cl b):Cl (a++b):=(by grind [De])
theorem Is {H:Ax T} {nx:Nat} (ag:Bool) (off n:Nat) {cs:List (DC T)} (h:Cl cs):(C8 ag off n cs).ok H nx:=by cases ag<;>grind [C8,DV.ok,DC.ok,De]
def Bc:Ah->Ah->Bool
 | [],[]=>true
 | a::x,b::y=>match Nat.beq a b with
   | true=>Bc x y
   | false=>false
 | _,_=>false
theorem AP: ∀ {a b:Ah},Bc a b=true↔a=b
 | [],[]=>by simp [Bc]
 | [],_::_=>by simp [Bc]
 | _::_,[]=>by simp [Bc]
 | a::x,b::y=>by
   unfold Bc;cases h:Nat.beq a b with
   | true=>
     have:=eq_of_beq_eq_true h;subst this;simp [AP (a:=x) (b:=y)]
   | false=>
     have:a ≠ b:=fun e=>by subst e;simp at h
     simp [this]
def pz:List (DC T)->Bool
 | [.c (.mp _)]=>true
 | _=>false
def Hk:List (DE T)->Ah->Option (DE T)
 | [],_=>none
 | e::r,id=>match Bc e.id id with
   | true=>some e
   | false=>Hk r id
def DX.isM:DX T->Bool
 | .box cs=>pz cs
 | .row _ _=>false
 | .deep .. =>false
def Af.look (st:Af T) (id:Ah):Option (DX T):=match CM id||Ep id with
 | true=>none
 | false=>match Hk st.so id with
   | some e=>match e.x.isM with
     | true=>none
     | false=>some e.x
   | none=>none
theorem C0: ∀ {l:List (DE T)} {id:Ah} {e:DE T},Hk l id=some e->e∈l/\e.id=id/\ ∀ p:Au->Bool,(∀ x:DE T,x.id ≠ id->p x.toE=false)->p e.toE=true->(l.map DE.toE).find? p=some e.toE
 | [],_,_,h=>by simp [Hk]at h
 | x::r,id,e,h=>by
   unfold Hk at h;split at h
   ·rename_i hb;injection h with h;subst h;exact⟨by simp,AP.1 hb,fun p _ hp=>by simp [List.find?_cons,hp]⟩
   ·rename_i hb;obtain⟨h1,h2,h3⟩:=C0 h;refine⟨by simp [h1],h2,fun p hp he=>?_⟩;have Tg:x.id ≠ id:=fun q=>by rw [AP.2 q]at hb;cases hb
    rw [map_cons,List.find?_cons,hp x Tg];exact h3 p hp he
theorem cD {cs:List (DC T)} (h:pz cs=false) (hk: ∀ c∈cs, ∀ kv,c.toC= .mp kv->c= .c (.mp kv)):eg (Av cs)=false:=by
 match cs with
 | []=>rfl
 | [c]=>
   simp only [Av,eg];grind [pz]
 | a::b::r=>
   simp only [Av];generalize a.toC=x;generalize b.toC=y;generalize Av r=z;cases x<;>rfl
theorem uj (c:DC T) (kv:List (Int×Int)) (h:c.toC= .mp kv):c= .c (.mp kv):=by
 cases c with
 | c x=>grind [DC.toC]
 | k kd x=>cases kd<;>simp [DC.toC,Bk]at h
 | ip=>simp [DC.toC]at h
 | rp=>simp [DC.toC]at h
 | ap=>simp [DC.toC]at h
 | bs=>simp [DC.toC]at h
 | clo b f cs=>cases b<;>simp [DC.toC]at h
theorem Af.aib {st:Af T} {id:Ah} {x:DX T} (h:st.look id=some x): ∃ e,e∈st.so/\e.id=id/\e.x=x/\st.toSt.look id=some e.toE/\st.toSt.acr id=some e.toE/\Ep id=false/\CM id=false:=by
 unfold Af.look at h;split at h
 ·cases h
 ·rename_i hd;simp only [Bool.or_eq_false_iff]at hd;split at h
  ·rename_i e he;split at h
   ·cases h
   ·rename_i hm;injection h with h;subst h;obtain⟨h1,h2,h3⟩:=C0 he;have hM:e.toE.isM=false:=by
     unfold DE.toE Au.isM;cases hx:e.x with
     | box cs=>
       rw [hx]at hm;exact cD hm (fun c _ kv q=>uj c kv q)
     | row E l=>rfl
     | deep E n l h=>rfl
    have hid:=e.toE_id;refine⟨e,h1,h2,rfl,?_,?_,hd.2,hd.1⟩
    ·refine h3 _ (fun y hy=>?_) ?_
     all_goals grind [DE.toE_id]
    ·refine h3 _ (fun y hy=>?_) ?_
     all_goals grind [DE.toE_id]
  ·cases h
theorem DE.toE_box {e:DE T} {cs:List (DC T)} (h:e.x= .box cs):e.toE=⟨e.id,none,Av cs,false⟩:=by unfold DE.toE;rw [h]
theorem DE.toE_row {e:DE T} {E:Nat} {l:List (T.den E)} (h:e.x= .row E l):e.toE=⟨e.id,some (E,T.sz E,l.length),l.flatMap (T.enc E),true⟩:=by unfold DE.toE;rw [h]
def F2 (ag:Bool) (off n N:Nat):Bool:=Nat.ble (off+n) N&&(ag||Nat.blt 0 n)
theorem CU {ag:Bool} {off n N:Nat} (h:F2 ag off n N=true):off+n<=N/\(ag=true\/0<n):=by simp_all [F2]
def K6 (st:Af T) (id:Ah):Option (List (DC T)):=match st.look id with
 | some (.box cs)=>some cs
 | _=>none
def DN (st:Af T) (id:Ah):Option ((E:Nat)×List (T.den E)):=match st.look id with
 | some (.row E l)=>some ⟨E,l⟩
 | _=>none
theorem Hz {st:Af T} {id:Ah} {cs:List (DC T)} (h:K6 st id=some cs):st.toSt.look id=some ⟨id,none,Av cs,false⟩/\st.toSt.acr id=some ⟨id,none,Av cs,false⟩/\ ∃ e∈st.so,e.id=id/\e.x= .box cs:=by
 unfold K6 at h;split at h
 ·rename_i cs' hl;injection h with h;subst h;obtain⟨e,h1,h2,h3,h4,h5,_⟩:=Af.aib hl;grind [DE.toE_box]
 ·cases h
theorem BQ {st:Af T} {id:Ah} {E:Nat} {l:List (T.den E)} (h:DN st id=some ⟨E,l⟩):st.toSt.look id=some ⟨id,some (E,T.sz E,l.length),l.flatMap (T.enc E),true⟩/\st.toSt.acr id=some ⟨id,some (E,T.sz E,l.length),l.flatMap (T.enc E),true⟩/\ ∃ e∈st.so,e.id=id/\e.x= .row E l:=by
 unfold DN at h;split at h
 ·rename_i E' l' hl;injection h with h;injection h with h1 h2;subst h1;have h2:=eq_of_heq h2;subst h2;obtain⟨e,h1,h2,h3,h4,h5,_⟩:=Af.aib hl;grind [DE.toE_row]
 ·cases h
theorem Rx {H:Ax T} {st:Af T} (hw:AI H st) {id:Ah} {cs:List (DC T)} (h:K6 st id=some cs):Cl cs:=by obtain⟨_,_,e,h1,_,h3⟩:=Hz h;have:=(hw.so e h1).2.2;rw [h3]at this;exact this
def Ki (st:Af T) (id:Ah):Option ((E:Nat)×(Int×List (T.den E)×Option (Int×Nat))):=match CM id with
 | true=>none
 | false=>match Hk st.so id with
   | some e=>match e.x with
     | .deep E n l h=>some ⟨E,(n,l,h)⟩
     | _=>none
   | none=>none
theorem B9 {st:Af T} {id:Ah} {E:Nat} {n:Int} {l:List (T.den E)} {h:Option (Int×Nat)} (hr:Ki st id=some ⟨E,(n,l,h)⟩):CM id=false/\st.toSt.acr id=some ⟨id,some (E,T.sz E,l.length),Bp T E n l h,true⟩/\ ∃ e∈st.so,e.id=id/\e.x= .deep E n l h:=by
 unfold Ki at hr;split at hr
 ·cases hr
 ·rename_i hmk;split at hr
  ·rename_i e he;split at hr
   ·rename_i E' n' l' h' hx;injection hr with hr;injection hr with h1 h2;subst h1;have h2:=eq_of_heq h2;injection h2 with h2 h3;injection h3 with h3 h4;subst h2 h3 h4;obtain⟨a,b,c⟩:=C0 he;have hE:e.toE=⟨id,some (E',T.sz E',l'.length),Bp T E' n' l' h',true⟩:=by grind [DE.toE]
    refine⟨hmk,?_,e,a,b,hx⟩;rw [<-hE];refine c _ (fun y hy=>?_) ?_
    all_goals grind [DE.toE_id,Au.isM]
   ·cases hr
  ·cases hr
def pA (st:Af T) (id:Ah):Option ((E:Nat)×List (T.den E)):=match DN st id with
 | some r=>some r
 | none=>match Ki st id with
   | some ⟨E,(_,l,_)⟩=>some ⟨E,l⟩
   | none=>none
theorem Xq {st:Af T} {id:Ah} {E:Nat} {l:List (T.den E)} (h:pA st id=some ⟨E,l⟩): ∃ e,st.toSt.acr id=some e/\e.row=some (E,T.sz E,l.length):=by
 unfold pA at h;split at h
 ·rename_i r hr;injection h with h;subst h;exact⟨_,(BQ hr).2.1,rfl⟩
 ·split at h
  ·rename_i E' n' l' h' hr;injection h with h;injection h with h1 h2;subst h1;have h2:=eq_of_heq h2;subst h2;exact⟨_,(B9 hr).2.1,rfl⟩
  ·cases h
theorem Xr: ∀ (ks:List Kd) (y:DK T.den ks),(BX T ks y).length =ks.length
 | [],_=>rfl
 | k::ks,y=>by simp only [BX,List.length_cons,Xr ks y.2]
theorem Ey (E:Nat) (x:T.den E):(T.aaV E x).length =T.sz E:=Xr _ _
theorem Kj (E:Nat) (n:Int): ∀ (k:Int) (l:List (T.den E)),(AC T E n k l).length =l.length*T.sz E
 | _,[]=>by simp [AC]
 | k,x::l=>by rw [AC,List.length_append,Kj E n (k+1) l,List.length_cons,add_mul,one_mul,add_comm];grind [Ey,AS]
theorem FF (E:Nat) (n:Int) (l:List (T.den E)) (h:Option (Int×Nat)):(Bp T E n l h).length =l.length*T.sz E:=by unfold Bp;grind [Kj]
theorem Kk {E:Nat} {n:Int}: ∀ {l:List (T.den E)} {k:Int} {i:Nat} {x:T.den E} {p:Nat},l[i]? =some x->p<T.sz E->(AC T E n k l)[i*T.sz E+p]? =(if k+i<n then T.aaV E x else T.enc E x)[p]?
 | [],_,_,_,_,h,_=>by simp at h
 | y::l,k,0,x,p,h,hp=>by
   simp only [List.getElem?_cons_zero,injEq]at h;subst h;rw [AC,Nat.zero_mul,zero_add,List.getElem?_append_left]
   all_goals grind [Ey,AS]
 | y::l,k,i+1,x,p,h,hp=>by
   have hl:(if k<n then T.aaV E y else T.enc E y).length =T.sz E:=by grind [Ey,AS]
   rw [AC,List.getElem?_append_right (by rw [hl,add_mul,one_mul];omega),hl,show (i+1)*T.sz E+p - T.sz E=i*T.sz E+p by rw [add_mul,one_mul];omega];rw [Kk (by simpa using h) hp];congr 2;push_cast;rw [show k+1+(i:Int)=k+((i:Int)+1) by omega]
def Pb:Kd->Bool
 | .t_ _=>false
 | _=>true
theorem cE: ∀ {ks:List Kd} {y:DK T.den ks} {p:Nat},(∀ k,ks[p]? =some k->Pb k=true)->(BX T ks y)[p]? =(BG T.enc ks y)[p]?
 | [],_,_,_=>rfl
 | k::ks,y,0,h=>by have:=h k rfl;simp only [BX,BG,List.getElem?_cons_zero,injEq];cases k<;>first | rfl | cases this
 | k::ks,y,p+1,h=>by simp only [BX,BG,List.getElem?_cons_succ];exact cE (fun k' hk=>h k' (by simpa using hk))
def jt (h:Option (Int×Nat)) (off n:Nat):Bool:=match h with
 | none=>true
 | some (_,o)=> !(Nat.ble off o&&Nat.blt o (off+n))
def mY (T:Bm) (E off n:Nat) (h:Option (Int×Nat)):Bool:=(((T.ks E).drop off).take n).all Pb&&jt h off n
theorem mZ {i j N p q:Nat} (hp:p<N) (hq:q<N) (h:i*N+p=j*N+q):p=q:=by grind [Nat.mul_comm,Nat.mul_add_mod,Nat.mod_eq_of_lt]
theorem uk {E:Nat} {nn:Int} {l:List (T.den E)} {h:Option (Int×Nat)} {i:Nat} {x:T.den E} {p:Nat} (hx:l[i]? =some x) (hp:p<T.sz E) (hf: ∀ k,(T.ks E)[p]? =some k->Pb k=true) (hh: ∀ j o,h=some (j,o)->o ≠ p/\o<T.sz E):
 (Bp T E nn l h)[i*T.sz E+p]? =(T.enc E x)[p]? :=by
 have base:(AC T E nn 0 l)[i*T.sz E+p]? =(T.enc E x)[p]? :=by
  rw [Kk hx hp];split
  ·rw [Bm.aaV,cE hf,T.aaT]
  ·rfl
 unfold Bp;split
 ·exact base
 ·rename_i j o;rw [List.getElem?_set_ne]
  ·exact base
  ·intro e;obtain⟨h1,h2⟩:=hh j o rfl;exact h1 (mZ h2 hp e)
theorem ul {E:Nat} {nn:Int} {l:List (T.den E)} {h:Option (Int×Nat)} {i:Int} {x:T.den E} {off n:Nat} {ag:Bool} (hx:idx l i=some x) (ho:F2 ag off n (T.sz E)=true) (hd:mY T E off n h=true) (hb: ∀ j o,h=some (j,o)->o<T.sz E):
 i.toNat*T.sz E+off+n<=(Bp T E nn l h).length /\toV ag (i.toNat*T.sz E+off) n (Bp T E nn l h)=(C8 (T:=T) ag off n (eW E x)).toV :=by
 obtain⟨h1,h2⟩:=CU ho;have hi:=L7 hx;have hxx:l[i.toNat]? =some x:=by have:=jb hx;grind
 have hle:i.toNat*T.sz E+T.sz E<=l.length*T.sz E:=by have:(i.toNat+1)*T.sz E<=l.length*T.sz E:=Nat.mul_le_mul_right _ (by omega);grind
 simp only [mY,and_eq_true,all_eq_true]at hd;have key: ∀ p,off<=p->p<off+n->(Bp T E nn l h)[i.toNat*T.sz E+p]? =(T.enc E x)[p]? :=fun p p1 p2=>by
  refine uk hxx (by omega) (fun k hk=>?_) (fun j o e=>⟨fun eo=>?_,hb j o e⟩)
  ·refine hd.1 k ?_;refine mem_of_getElem? (i:=p - off) ?_;grind
  grind [jt,Nat.ble_eq_true_of_le,Nat.blt]
 refine⟨by rw [FF];omega,?_⟩;rw [Hy,GO];unfold toV;have hlen:(Bp T E nn l h).length =l.length*T.sz E:=FF _ _ _ _;split
 ·congr 1;apply ext_getElem?;grind
 grind
theorem rA {E:Nat} {nn:Int} {l:List (T.den E)} {i:Int} {x:T.den E} {off n:Nat} {ag:Bool} (hx:idx l i=some x) (hn:nn<=i) (ho:F2 ag off n (T.sz E)=true):
 i.toNat*T.sz E+off+n<=(Bp T E nn l none).length /\toV ag (i.toNat*T.sz E+off) n (Bp T E nn l none)=(C8 (T:=T) ag off n (eW E x)).toV :=by
 obtain⟨h1,h2⟩:=CU ho;have hi:=L7 hx;have hxx:l[i.toNat]? =some x:=by have:=jb hx;grind
 have hle:i.toNat*T.sz E+T.sz E<=l.length*T.sz E:=by have:(i.toNat+1)*T.sz E<=l.length*T.sz E:=Nat.mul_le_mul_right _ (by omega);grind
 have key: ∀ p,off<=p->p<off+n->(Bp T E nn l none)[i.toNat*T.sz E+p]? =(T.enc E x)[p]? :=fun p p1 p2=>by show (AC T E nn 0 l)[_]? =_;rw [Kk hxx (by omega),if_neg (by omega)]
 refine⟨by rw [FF];omega,?_⟩;rw [Hy,GO];unfold toV;have hlen:(Bp T E nn l none).length =l.length*T.sz E:=FF _ _ _ _;split
 ·congr 1;apply ext_getElem?;grind
 grind
def um (N:Nat):Option (Int×Nat)->Bool
 | none=>true
 | some (_,o)=>Nat.blt o N
def ju (P:Program) (t:TypeId) (key:List GL) (st:Af T) (v:DV T):M (DV T):=
 match KS P t with
 | none=> .no
 | some (ag,n)=>match v with
   | .c (.c (.ptr id off))=>match K6 st id with
     | some cs=>match F2 ag off n cs.length with
       | true=> .ret (C8 ag off n cs)
       | false=> .no
     | none=> .no
   | .c (.ip E _ _ x off)=>match F2 ag off n (T.sz E)with
     | true=> .ret (C8 ag off n (eW E x))
     | false=> .no
   | .c (.rp id N i off)=>match DN st id with
     | some ⟨E,l⟩=>match Nat.beq (T.sz E) N&&F2 ag off n N with
       | true=> .opt (gk key (idx l i)) fun x=> .ret (C8 ag off n (eW E x))
       | false=> .no
     | none=>match Ki st id with
       | some ⟨E,(nn,l,h)⟩=>match Nat.beq (T.sz E) N&&(F2 ag off n N&&(mY T E off n h&&um (T.sz E) h))with
         | true=> .opt (gk key (idx l i)) fun x=> .ret (C8 ag off n (eW E x))
         | false=>match Nat.beq (T.sz E) N&&(F2 ag off n N&&h.isNone)with
           | true=> .opt (gk key (idx l i)) fun x=> .opt (gk key (n_ (nn<=i))) fun _=> .ret (C8 ag off n (eW E x))
           | false=> .no
       | none=> .no
   | .c (.ap id base m E i off)=>match K6 st id with
     | some cs=>match LF E m (cs.drop base),F2 ag off n (T.sz E)&&Nat.ble base cs.length with
       | some l,true=> .opt (gk key (idx l i)) fun x=> .ret (C8 ag off n (eW E x))
       | _,_=> .no
     | none=> .no
   | _=> .no
def Rd (H:Ax T) (P:Program) (st:Af T) (key:List GL) (op:Op) (v:DV T):Prop:=
 Bb key=true->v.ok H st.nx/\(D7 P st.toSt (Bb key) op).1/\(D7 P st.toSt (Bb key) op).2=v.toV
theorem jv {E:Nat} {l:List (T.den E)} {i:Int} {x:T.den E} {off n:Nat} {ag:Bool} (hx:idx l i=some x) (ho:F2 ag off n (T.sz E)=true):
 i.toNat*T.sz E+off+n<=(l.flatMap (T.enc E)).length /\toV ag (i.toNat*T.sz E+off) n (l.flatMap (T.enc E))=(C8 (T:=T) ag off n (eW E x)).toV :=by
 obtain⟨h1,h2⟩:=CU ho;refine eR hx (fun y=>AS E y) rfl h1 h2 ?_;rw [Hy,GO]
theorem Xs {H:Ax T} {P:Program} {t:TypeId} {key:List GL} {st:Af T} {v:DV T} (hw:AI H st) (hv:Bb key=true->v.ok H st.nx):
 Yl (ju P t key st v) (fun r=>Bb key=true->r.ok H st.nx/\(DW P t st.toSt v.toV).1/\(DW P t st.toSt v.toV).2=r.toV):=by
 unfold ju;split
 ·exact Yl.no
 ·rename_i ag n ht;split
  ·rename_i id off;split
   ·rename_i cs hb;split
    ·rename_i ho;obtain⟨h1,h2⟩:=CU ho;refine Yl.ret fun _=>⟨Is _ _ _ (Rx hw hb),?_⟩;simp only [DV.toV,DC.toC,DW,ht,(Hz hb).2.1];rw [Hy,AO];grind
    ·exact Yl.no
   ·exact Yl.no
  ·rename_i E l i x off;split
   ·rename_i ho;refine Yl.ret fun hc=>⟨Is _ _ _ (MR E x),?_⟩;have hx:=hv hc;simp only [DV.ok,DC.ok]at hx;obtain⟨a,b⟩:=jv (T:=T) hx ho;simp only [DV.toV,DC.toC,DW,ht];exact⟨⟨a,(CU ho).2⟩,b⟩
   ·exact Yl.no
  ·rename_i id N i off;split
   ·rename_i E l hb;split
    ·rename_i ho;simp only [and_eq_true,beq_eq]at ho;obtain⟨e,ho⟩:=ho;subst e;refine Yl.opt fun x hx=>Yl.ret fun hc=>⟨Is _ _ _ (MR E x),?_⟩;obtain⟨a,b⟩:=jv (T:=T) (Rv hx hc) ho;simp only [DV.toV,DC.toC,DW,ht,(BQ hb).2.1];exact⟨⟨a,(CU ho).2⟩,b⟩
    ·exact Yl.no
   ·split
    ·rename_i E nn l h hr;split
     ·rename_i ho;simp only [and_eq_true,beq_eq]at ho;obtain⟨e,ho,hd,hi⟩:=ho;subst e;refine Yl.opt fun x hx=>Yl.ret fun hc=>⟨Is _ _ _ (MR E x),?_⟩;obtain⟨a,b⟩:=ul (T:=T) (nn:=nn) (Rv hx hc) ho hd (fun j o e=>by simp_all [um]);simp only [DV.toV,DC.toC,DW,ht,(B9 hr).2.1];exact⟨⟨a,(CU ho).2⟩,b⟩
     ·split
      ·rename_i ho;simp only [and_eq_true,beq_eq,Option.isNone_iff_eq_none]at ho;obtain⟨e,ho,hn⟩:=ho;subst e hn;refine Yl.opt fun x hx=>Yl.opt fun u hu=>Yl.ret fun hc=>⟨Is _ _ _ (MR E x),?_⟩;obtain⟨a,b⟩:=rA (T:=T) (nn:=nn) (Rv hx hc) (CJ (Rv hu hc)) ho;simp only [DV.toV,DC.toC,DW,ht,(B9 hr).2.1];exact⟨⟨a,(CU ho).2⟩,b⟩
      ·exact Yl.no
    ·exact Yl.no
  ·rename_i id base m E i off;split
   ·rename_i cs hb;split
    ·rename_i l hl ho;refine Yl.opt fun x hx=>Yl.ret fun hc=>⟨Is _ _ _ (MR E x),?_⟩;simp only [and_eq_true,ble_eq]at ho;obtain⟨ho,apN⟩:=ho;obtain⟨h1,h2⟩:=CU ho;obtain⟨hlen,r,hr⟩:=Ex hl;rw [Gv]at hr;have:=eT (cs:=Av cs) (pre:=(Av cs).take base) (post:=r) (base:=base) (e:=T.enc E) (N:=T.sz E) (o:=off) (n:=n) (ag:=ag) (v:=(C8 (T:=T) ag off n (eW E x)).toV) (off:=base+i.toNat*T.sz E+off)
      (by grind [take_append_drop]) (by grind [AO]) (Rv hx hc) (fun y=>AS E y) (by omega) h1 h2 (by rw [Hy,GO])
     simp_all [DV.toV,DC.toC,DW,Hz]
    ·exact Yl.no
   ·exact Yl.no
  ·exact Yl.no
end Go.PL
namespace Go.PL
open Go Go.RowKit
variable {T:Bm}
def Xt (st:Af T):Operand->Nat
 | .tmp t=>match Nat.blt t st.m with
   | true=>Xg st.tm t
   | false=>0
 | _=>0
def S5 (key:List GL) (tc:Nat) (w p:Bool):List GL:=match tc with
 | 0=>key
 | t+1=>⟨t,w,p==w⟩::key
def S6:DV T->Option (List GL×Bool)
 | .c (.k .bool q)=>some ([],q)
 | .g k (.c (.k .bool q))=>some (k,q)
 | _=>none
def up (key:List GL) (tc:Nat) (p:Bool) (a b:DV T):M (DV T):=
 match S6 a,S6 b with
 | some (ka,q),some (kb,r)=>match Ql ka (S5 key tc true p),Ql kb (S5 key tc false p)with
   | true,true=> .ret (.c (.k .bool (if p then q else r)))
   | _,_=> .no
 | _,_=> .no
def Xu (op:BinOp) (k:IntKind) (a b:Int):DC T:=
 match op with
 | .add => .k (.int k) (k.wrap (a+b))
 | .sub => .k (.int k) (k.wrap (a - b))
 | .mul => .k (.int k) (k.wrap (a*b))
 | .quo => .k (.int k) (k.wrap (a.tdiv b))
 | .rem => .k (.int k) (a.tmod b)
 | .and => .k (.int k) (JS k a b)
 | .or => .k (.int k) (bOr k a b)
 | .xor => .k (.int k) (Q3 k a b)
 | .andNot => .k (.int k) (ek k a b)
 | .shl => .k (.int k) (k.wrap (a*2 ^ (min b.toNat k.bits)))
 | .shr => .k (.int k) (a.fdiv (2 ^ (min b.toNat k.bits)))
 | .eql => .k .bool (a==b)
 | .neq => .k .bool (a != b)
 | .lss => .k .bool (decide (a<b))
 | .leq => .k .bool (decide (a<=b))
 | .gtr => .k .bool (decide (b<a))
 | .geq => .k .bool (decide (b<=a))
theorem uq (op:BinOp) (k:IntKind) (a b:Int):(Xu (T:=T) op k a b).toC =(KV op k a b).2/\(Xu (T:=T) op k a b).ok :=by cases op<;>exact⟨rfl,by simp only [Xu,DC.ok]⟩
def Aep (op:BinOp) (a b:List UInt8):Option (DC T):=
 match op with
 | .eql =>some (.k .bool (a==b))
 | .neq =>some (.k .bool (a != b))
 | .lss =>some (.k .bool (Op.bytesLess a b))
 | .leq =>some (.k .bool (Op.bytesLess a b||a==b))
 | .gtr =>some (.k .bool (!(Op.bytesLess a b||a==b)))
 | .geq =>some (.k .bool (!Op.bytesLess a b))
 | _=>none
def jw (op:BinOp) (b:Bool):Option (DC T):=
 match op with
 | .eql =>some (.k .bool b)
 | .neq =>some (.k .bool !b)
 | _=>none
def Tf {α:Type} (b:Bool) (m:M α):M α:=match b with
 | true=>m
 | false=> .no
theorem Yl.Tf {α:Type} {Φ:α->Prop} {b:Bool} {m:M α} (h:b=true->Yl m Φ):Yl (PL.Tf b m) Φ:=by
 cases b with
 | true=>exact h rfl
 | false=>exact Yl.no
def ur:Operand->Bool
 | .const (.int _ n)=> !(decide (n=0))
 | _=>false
def ut:Operand->Bool
 | .const (.int _ n)=>decide (0<=n)
 | _=>false
def nd (lit:Bool) (key:List GL) (p:Prop) [Decidable p] (v:DV T):M (DV T):=match lit with
 | true=> .ret v
 | false=> .opt (gk key (n_ p)) fun _=> .ret v
def uu (op:BinOp) (key:List GL) (nz nn:Bool) (k:IntKind) (a b:Int):M (DV T):=
 match op with
 | .quo =>nd nz key (b ≠ 0) (.c (Xu .quo k a b))
 | .rem =>nd nz key (b ≠ 0) (.c (Xu .rem k a b))
 | .shl =>nd nn key (0<=b) (.c (Xu .shl k a b))
 | .shr =>nd nn key (0<=b) (.c (Xu .shr k a b))
 | op=> .ret (.c (Xu op k a b))
def AaK (op:BinOp) (key:List GL) (a b:List UInt8):M (DV T):=
 match op with
 | .add => .opt (gk key (cat a b)) fun s=> .ret (.c (.k .str s))
 | op=>match Aep op a b with
   | some v=> .ret (.c v)
   | none=> .no
def AaL (op:BinOp) (a b:Bool):M (DV T):=
 match op with
 | .eql => .ret (.c (.k .bool (a==b)))
 | .neq => .ret (.c (.k .bool (a != b)))
 | _=> .no
def AbR (P:Program) (op:BinOp) (t:TypeId) (key:List GL) (kc nz nn:Bool) (x y:DV T):M (DV T):=
 match x,y with
 | .c (.k (.int k) a), .c (.k (.int k') b)=>Tf (kEq op k k') (uu op key nz nn k a b)
 | .c (.k .str a), .c (.k .str b)=>AaK op key a b
 | .c (.k .bool a), .c (.k .bool b)=>Tf (WG P t) (AaL op a b)
 | .c (.c .aag), .c (.c .aag)=>Tf (kc&&KW P t)<|match jw op true with
   | some v=> .ret (.c v)
   | none=> .no
 | .c (.c .held), .c (.c .aag)=>Tf (KW P t)<|match jw op false with
   | some v=> .ret (.c v)
   | none=> .no
 | .c (.c (.ptr _ _)), .c (.c .ab_)=>Tf (LZ P t)<|match jw op false with
   | some v=> .ret (.c v)
   | none=> .no
 | .c (.c .ab_), .c (.c .ab_)=>Tf (LZ P t)<|match jw op true with
   | some v=> .ret (.c v)
   | none=> .no
 | .c (.rp _ _ _ _), .c (.c .ab_)=>Tf (LZ P t)<|match jw op false with
   | some v=> .ret (.c v)
   | none=> .no
 | .c (.ip _ _ _ _ _), .c (.c .ab_)=>Tf (LZ P t)<|match jw op false with
   | some v=> .ret (.c v)
   | none=> .no
 | .agg cs, .agg ds=>match tp false t cs,tp false t ds with
   | some x,some y=>Tf (mv P t (Av cs) (Av ds))<|match op with
     | .eql => .ret (.c (.k .bool (T.beq t x y)))
     | .neq => .ret (.c (.k .bool !(T.beq t x y)))
     | _=> .no
   | _,_=> .no
 | _,_=> .no
section
variable {H:Ax T} {P:Program} {st:Af T} {key:List GL}
theorem cF (hw:AI H st) (hk:FE H st.nx key) {c:Operand} {p:Bool} (hp:st.arg key c=some (.c (.k .bool p))) (w:Bool):FE H st.nx (S5 key (Xt st c) w p):=by
 unfold S5;split
 ·exact hk
 ·rename_i t ht;intro l hl;rcases mem_cons.1 hl with rfl | hl
  ·unfold Xt at ht;split at ht
   ·rename_i i;split at ht
    ·rename_i hb;obtain⟨h1,h2⟩:=Xh hw.tm ht;refine⟨h1,?_⟩;show (p==w)=(eV (H.v t)==w);rw [h2];have e:st.ev (.tmp i)=lk st.tm i:=by show st.get i=_;unfold Af.get;rw [hb]
     unfold Af.arg at hp;rw [e]at hp;split at hp
     ·rename_i k v hv;split at hp
      ·injection hp with hp;subst hp;rw [hv];rfl
      ·cases hp
     ·injection hp with hp;rw [hp];rfl
    ·cases ht
   ·cases ht
  ·exact hk l hl
theorem U2 {tc:Nat} {w p:Bool} (hc:Bb key=true) (hp:p=w):Bb (S5 key tc w p)=true:=by
 unfold S5;split
 ·exact hc
 ·refine Kg.2 fun l hl=>?_;rcases mem_cons.1 hl with rfl | hl
  all_goals grind [Kg]
theorem U3 {v:DV T} {k:List GL} {q:Bool} (h:S6 v=some (k,q)):P9 v.toV=some (Bb k,q):=by
 unfold S6 at h;split at h
 ·injection h with h;injection h with h1 h2;subst h1 h2;rfl
 ·injection h with h;injection h with h1 h2;subst h1 h2;rfl
 ·cases h
theorem cG {v:DV T} {k:List GL} {q:Bool} (h:S6 v=some (k,q)) {nx:Nat} (hv:v.ok H nx):FE H nx k:=by
 unfold S6 at h;split at h
 ·injection h with h;injection h with h1 h2;subst h1 h2;intro l hl;cases hl
 ·injection h with h;injection h with h1 h2;subst h1 h2;simp only [DV.ok]at hv;exact hv.1
 ·cases h
theorem uv (hw:AI H st) (hk:FE H st.nx key) {c a b:Operand} {p:Bool} (hp:st.arg key c=some (.c (.k .bool p))):
 Yl (up key (Xt st c) p (st.ev a) (st.ev b)) (fun v=>Bb key=true->v.ok H st.nx/\(WK p (st.toSt.ev a) (st.toSt.ev b)).1/\(WK p (st.toSt.ev a) (st.toSt.ev b)).2=v.toV):=by
 unfold up;split
 ·rename_i ka q kb r h1 h2;split
  ·rename_i s1 s2;refine Yl.ret fun hc=>⟨by simp only [DV.ok,DC.ok],?_⟩;unfold WK;rw [st.abD,st.abD,U3 h1,U3 h2];refine⟨⟨fun e=>Oe s1 (cG h1 (Af.als hw a)) (cF hw hk hp true) (U2 hc e),fun e=>Oe s2 (cG h2 (Af.als hw b)) (cF hw hk hp false) (U2 hc e)⟩,?_⟩;rfl
  ·exact Yl.no
 ·exact Yl.no
theorem JF {op:BinOp} {b:Bool} {v:DC T} (h:jw op b=some v) {s:Prop} (hs:s):(N1 op b s).1/\(N1 op b s).2= .c v.toC/\v.ok:=by
 unfold jw at h;split at h
 ·injection h with h;subst h;exact⟨hs,rfl,by simp only [DC.ok]⟩
 ·injection h with h;subst h;exact⟨hs,rfl,by simp only [DC.ok]⟩
 ·cases h
theorem pB {lit:Bool} {p:Prop} [Decidable p] {v:DV T} (hl:lit=true->p):Yl (nd lit key p v) (fun r=>Bb key=true->p/\r=v):=by
 unfold nd;split
 ·exact Yl.ret (by grind)
 ·exact Yl.opt fun u hu=>Yl.ret fun hc=>by have:=CJ (Rv hu hc);grind
theorem uw {op:BinOp} {nz nn:Bool} {k:IntKind} {a b:Int} (h1:nz=true->b ≠ 0) (h2:nn=true->0<=b):Yl (uu (T:=T) op key nz nn k a b) (fun v=>Bb key=true->(KV op k a b).1/\v= .c (Xu op k a b)):=by
 unfold uu;split
 ·exact pB h1
 ·exact pB h1
 ·exact pB h2
 ·exact pB h2
 ·refine Yl.ret fun hc=>⟨?_,rfl⟩;cases op<;>first | trivial | simp_all
def AaM (nz nn:Bool) (y:DV T):Prop:= ∀ (k:IntKind) (b:Int),y= .c (.k (.int k) b)->(nz=true->b ≠ 0)/\(nn=true->0<=b)
theorem yb {op:BinOp} {t:TypeId} {kc nz nn:Bool} {x y:DV T} (axK:AaM nz nn y):
 Yl (AbR P op t key kc nz nn x y) (fun v=>Bb key=true->v.ok H st.nx/\(MP P op t kc x.toV y.toV).1/\(MP P op t kc x.toV y.toV).2=v.toV):=by
 unfold AbR;split
 ·rename_i k a k' b;refine Yl.Tf fun hb=>?_;have hb':=iV hb;have aEf:(KV op k a b).1->(DV.c (Xu (T:=T) op k a b)).ok H st.nx/\(MP P op t kc (DV.c (T:=T) (.k (.int k) a)).toV (DV.c (T:=T) (.k (.int k') b)).toV).1/\(MP P op t kc (DV.c (T:=T) (.k (.int k) a)).toV (DV.c (T:=T) (.k (.int k') b)).toV).2=(DV.c (Xu (T:=T) op k a b)).toV :=by intro hi;obtain⟨q1,q2⟩:=uq (T:=T) op k a b;simp_all [DV.ok,DV.toV,DC.toC,Bk,MP,VI]
  obtain⟨l1,l2⟩:=axK k' b rfl;exact(uw l1 l2).mono (by grind)
 ·rename_i a b;unfold AaK;split
  ·refine Yl.opt fun s hs=>Yl.ret fun hc=>?_;have:=Rv hs hc;simp only [DV.ok,DC.ok,DV.toV,DC.toC,Bk,MP,VI,LX,true_and];exact⟨Aek this,by rw [Ael this]⟩
  ·rename_i Tg;split
   ·rename_i v hv;refine Yl.ret fun hc=>?_;unfold Aep at hv;split at hv<;>first
     | (injection hv with hv;subst hv;simp only [DV.ok,DC.ok,DV.toV,DC.toC,Bk,MP,VI,LX,and_self])
     | grind
   ·exact Yl.no
 ·rename_i a b;refine Yl.Tf fun hb=>?_;unfold AaL;split
  ·exact Yl.ret fun _=>⟨by simp only [DV.ok,DC.ok],hb,rfl⟩
  ·exact Yl.ret fun _=>⟨by simp only [DV.ok,DC.ok],hb,rfl⟩
  ·exact Yl.no
 ·refine Yl.Tf fun hb=>?_;split
  ·rename_i v hv;refine Yl.ret fun _=>?_;simp only [and_eq_true]at hb;obtain⟨a,b,c⟩:=JF (s:=kc=true/\KW P t=true) hv hb;exact⟨by grind [DV.ok],a,by simp only [DV.toV];exact b⟩
  ·exact Yl.no
 ·refine Yl.Tf fun hb=>?_;split
  ·rename_i v hv;refine Yl.ret fun _=>?_;obtain⟨a,b,c⟩:=JF (s:=KW P t=true) hv hb;exact⟨by grind [DV.ok],a,by simp only [DV.toV];exact b⟩
  ·exact Yl.no
 ·refine Yl.Tf fun hb=>?_;split
  ·rename_i v hv;refine Yl.ret fun _=>?_;obtain⟨a,b,c⟩:=JF (s:=LZ P t=true) hv hb;exact⟨by grind [DV.ok],a,by simp only [DV.toV];exact b⟩
  ·exact Yl.no
 ·refine Yl.Tf fun hb=>?_;split
  ·rename_i v hv;refine Yl.ret fun _=>?_;obtain⟨a,b,c⟩:=JF (s:=LZ P t=true) hv hb;exact⟨by grind [DV.ok],a,by simp only [DV.toV];exact b⟩
  ·exact Yl.no
 ·refine Yl.Tf fun hb=>?_;split
  ·rename_i v hv;refine Yl.ret fun _=>?_;obtain⟨a,b,c⟩:=JF (s:=LZ P t=true) hv hb;exact⟨by grind [DV.ok],a,by simp only [DV.toV];exact b⟩
  ·exact Yl.no
 ·refine Yl.Tf fun hb=>?_;split
  ·rename_i v hv;refine Yl.ret fun _=>?_;obtain⟨a,b,c⟩:=JF (s:=LZ P t=true) hv hb;exact⟨by grind [DV.ok],a,by simp only [DV.toV];exact b⟩
  ·exact Yl.no
 ·rename_i cs ds;split
  ·rename_i x y h1 h2;refine Yl.Tf fun hb=>?_;have e:T.beq t x y=B0 (Av cs) (Av ds):=by rw [T.ain,(Ir h1).2 rfl,(Ir h2).2 rfl]
   split
   ·refine Yl.ret fun _=>⟨by simp only [DV.ok,DC.ok],?_⟩;simp_all [DV.toV,DC.toC,Bk,MP,iN]
   ·refine Yl.ret fun _=>⟨by simp only [DV.ok,DC.ok],?_⟩;simp_all [DV.toV,DC.toC,Bk,MP,iN]
   ·exact Yl.no
  ·exact Yl.no
 ·exact Yl.no
end
end Go.PL
namespace Go.PL
open Go Go.RowKit
variable {T:Bm}
def dun (op:UnOp):DV T->M (DV T)
 | .c (.k (.int k) n)=>match op with
   | .neg => .ret (.c (.k (.int k) (k.wrap (0 - (show Int from n)))))
   | .xor => .ret (.c (.k (.int k) (Q3 k (if k.signed then -1 else k.max) n)))
   | _=> .no
 | .c (.k .bool b)=>match op with
   | .not => .ret (.c (.k .bool !(show Bool from b)))
   | _=> .no
 | _=> .no
def ux (P:Program) (src dst:TypeId):DV T->M (DV T)
 | .c (.k (.int _) n)=>match iw P dst with
   | some k=>Tf (xA P src) (.ret (.c (.k (.int k) (k.wrap n))))
   | none=> .no
 | .c (.k .str s)=>Tf (FC P src&&FC P dst) (.ret (.c (.k .str s)))
 | _=> .no
def yc (st:Af T) (key:List GL):Option Operand->Option (Option Int)
 | none=>some none
 | some x=>match st.arg key x with
   | some (.c (.k (.int _) n))=>some (some n)
   | _=>none
def AaN (key:List GL) (s:List UInt8) (lo hi:Option Int):M (DV T):=
 .opt (gk key (Xb s (lo.getD 0) (hi.getD s.length))) fun r=> .ret (.c (.k .str r))
def AaO (key:List GL) (E:Nat) (l:List (T.den E)) (lo hi:Option Int):M (DV T):=
 .opt (gk key (eQ l (lo.getD 0) (hi.getD l.length))) fun r=> .ret (.c (.k (.t_ E) r))
def AbS (P:Program) (t:TypeId) (key:List GL) (x:DV T) (lo hi:Option Int):M (DV T):=
 match x with
 | .c (.k .str s)=>Tf (FC P t) (AaN key s lo hi)
 | .c (.k (.t_ E) l)=>match Dt P t with
   | some (_,n)=>Tf (Nat.beq n (T.sz E)) (AaO key E l lo hi)
   | none=> .no
 | _=> .no
def uy (P:Program) (s:TypeId) (f:Nat) (x:DV T):M (DV T):=
 match tw P s f with
 | some (o,_,n)=>Tf (Nat.blt 0 n)<|match x with
   | .c (.c (.ptr id off))=> .ret (.c (.c (.ptr id (off+o))))
   | .c (.ip E l i x off)=> .ret (.c (.ip E l i x (off+o)))
   | .c (.rp id N i off)=> .ret (.c (.rp id N i (off+o)))
   | .c (.ap id base m E i off)=> .ret (.c (.ap id base m E i (off+o)))
   | _=> .no
 | none=> .no
def m6 (P:Program) (t:TypeId) (f:Nat) (x:DV T):M (DV T):=
 match x with
 | .agg cs=>match tw P t f with
   | some (o,ag,n)=>Tf (F2 ag o n cs.length) (.ret (C8 ag o n cs))
   | none=> .no
 | _=> .no
def jx (key:List GL) (E:Nat) (l:List (T.den E)) (i:Int) (f:T.den E->DV T):M (DV T):= .opt (gk key (idx l i)) fun x=> .ret (f x)
def AbT (P:Program) (t:TypeId) (key:List GL) (st:Af T) (x y:DV T):M (DV T):=
 match y with
 | .c (.k (.int _) i)=>match x with
   | .c (.k (.t_ E) l)=>match Dt P t with
     | some (_,n)=>Tf (Nat.beq n (T.sz E)) (jx key E l i fun x=> .c (.ip E l i x 0))
     | none=> .no
   | .c (.c (.j_ id))=>match Dt P t,pA st id with
     | some (_,n),some ⟨E,l⟩=>jx key E l i fun _=> .c (.rp id n i 0)
     | _,_=> .no
   | .c (.c (.ptr id off))=>match GK P t,K6 st id with
     | some (k,e,n),some cs=>match LF e k (cs.drop off)with
       | some l=>Tf (Nat.beq n (T.sz e)&&Nat.ble off cs.length) (jx key e l i fun _=> .c (.ap id off k e i 0))
       | none=> .no
     | _,_=> .no
   | _=> .no
 | _=> .no
def AaP (key:List GL) (s:List UInt8) (i:Int):M (DV T):= .opt (gk key (SZ s i)) fun r=> .ret (.c (.k (.int .u8) r))
def uz (P:Program) (t:TypeId) (key:List GL) (x y:DV T):M (DV T):=
 match y with
 | .c (.k (.int _) i)=>match x with
   | .c (.k .str s)=>Tf (FC P t) (AaP key s i)
   | .agg cs=>match GK P t with
     | some (k,e,n)=>match KS P e,LF e k cs with
       | some (ag,_),some l=>Tf (Nat.beq n (T.sz e)&&(Nat.blt 0 n&&Nat.beq cs.length (k*n))) (jx key e l i fun x=>C8 ag 0 n (eW e x))
       | _,_=> .no
     | none=> .no
   | _=> .no
 | _=> .no
def AbU (i:Nat):DV T->M (DV T)
 | .tup vs=>Tf (Nat.blt i vs.length) (.ret (vs.getD i .u))
 | _=> .no
def uA:DV T->M (DV T)
 | .c (.c (.ptr id off))=> .ret (.c (.c (.ptr id off)))
 | .c (.c (.fn f))=> .ret (.c (.c (.fn f)))
 | .c (.ip E l i x off)=> .ret (.c (.ip E l i x off))
 | .c (.rp id N i off)=> .ret (.c (.rp id N i off))
 | .c (.ap id b m E i off)=> .ret (.c (.ap id b m E i off))
 | .c (.clo b f cs)=> .ret (.c (.clo b f cs))
 | _=> .no
def AbV (P:Program) (t:TypeId) (st:Af T) (x:DV T):M (DV T):=
 match x with
 | .c (.k .str s)=>Tf (FC P t) (.ret (.c (.k (.int .i64) ((List.length (α:=UInt8) s:Nat):Int))))
 | .c (.k (.t_ E) l)=>Tf (Fa P t) (.ret (.c (.k (.int .i64) ((List.length (α:=T.den E) l:Nat):Int))))
 | .c (.c (.j_ id))=>match pA st id with
   | some ⟨_,l⟩=>Tf (Fa P t) (.ret (.c (.k (.int .i64) ((l.length:Nat):Int))))
   | none=> .no
 | .c (.bs _ _ _ n)=>Tf (Fa P t) (.ret (.c (.k (.int .i64) ((n.toNat:Nat):Int))))
 | .agg _=>match GK P t with
   | some (k,_,_)=> .ret (.c (.k (.int .i64) ((k:Nat):Int)))
   | none=> .no
 | .c (.c (.ptr _ _))=>match GK P t with
   | some (k,_,_)=> .ret (.c (.k (.int .i64) ((k:Nat):Int)))
   | none=> .no
 | _=> .no
def Je (st:Af T) (key:List GL):List Operand->Option (List (DV T))
 | []=>some []
 | x::xs=>match st.arg key x,Je st key xs with
   | some v,some vs=>some (v::vs)
   | _,_=>none
abbrev AgE (x:Int) (ys:List Int):Int:=ys.foldl (fun a y=>if y<a then y else a) x
abbrev AgF (x:Int) (ys:List Int):Int:=ys.foldl (fun a y=>if a<y then y else a) x
def AaQ (k:IntKind) (x:Int) (ys:List Int):DV T:= .c (.k (.int k) (AgE x ys))
def AaR (k:IntKind) (x:Int) (ys:List Int):DV T:= .c (.k (.int k) (AgF x ys))
def Xv:List (DV T)->Option (IntKind×Int×List Int)
 | [.c (.k (.int k) x)]=>some (k,x,[])
 | .c (.k (.int k) x)::vs=>match Xv vs with
   | some (_,y,ys)=>some (k,x,y::ys)
   | none=>none
 | _=>none
def m7:Value->Option (DC T)
 | .int k n=>some (.k (.int k) n)
 | .bool b=>some (.k .bool b)
 | .string s=>some (.k .str s.data.toList)
 | v=>match WR v with
   | some c=>some (.c c)
   | none=>none
def Ry:List Value->Option (List (DC T))
 | []=>some []
 | v::vs=>match m7 v,Ry vs with
   | some c,some cs=>some (c::cs)
   | _,_=>none
def Xw (P:Program) (t:TypeId):Option (List (DC T)):=
 match P.info? t with
 | some i=>match i.zero with
   | some z=>Ry z.cells.toList
   | none=>none
 | none=>none
def DV.cells:DV T->Option (List (DC T))
 | .c x=>some [x]
 | .agg cs=>some cs
 | _=>none
def U4 (place:Nat->Option (Nat×Nat)) (cells:List (DC T)):List (Nat×DV T)->Option (List (DC T))
 | []=>some cells
 | (i,v)::rest=>match place i,v.cells with
   | some (off,size),some cs=>match Nat.beq cs.length size&&Nat.ble (off+size) cells.length with
     | true=>U4 place (cells.take off++(cs++cells.drop (off+size))) rest
     | false=>none
   | _,_=>none
def HB (st:Af T) (key:List GL):List (Nat×Operand)->Option (List (Nat×DV T))
 | []=>some []
 | (i,x)::r=>match st.arg key x,HB st key r with
   | some v,some vs=>some ((i,v)::vs)
   | _,_=>none
def cH:List (DV T)->Option (List (DC T))
 | []=>some []
 | .c x::vs=>match cH vs with
   | some cs=>some (x::cs)
   | none=>none
 | _=>none
def m8 (P:Program) (t:TypeId) (key:List GL) (st:Af T) (ps:List (Nat×Operand)):M (DV T):=
 match Xw P t,HB st key ps with
 | some z,some vs=>match U4 (plc P t) z vs with
   | some cs=>Tf (pe P t) (.ret (.agg cs))
   | none=> .no
 | _,_=> .no
def L9 (P:Program) (key:List GL) (st:Af T):Op->M (DV T)
 | .move x=> .sm (st.arg key x)
 | .assign x=> .sm (st.arg key x)
 | .pick c a b=>match st.arg key c with
   | some (.c (.k .bool p))=>up key (Xt st c) p (st.ev a) (st.ev b)
   | _=> .no
 | .load t x=>match st.arg key x with
   | some v=>ju P t key st v
   | none=> .no
 | .binOp op t x y _=>match st.arg key x,st.arg key y with
   | some u,some v=>AbR P op t key (BN x||BN y) (ur y) (ut y) u v
   | _,_=> .no
 | .unOp op _ x=>match st.arg key x with
   | some v=>dun op v
   | none=> .no
 | .convert src dst x=>match st.arg key x with
   | some v=>ux P src dst v
   | none=> .no
 | .slice t x lo hi none=>match st.arg key x,yc st key lo,yc st key hi with
   | some v,some l,some h=>AbS P t key v l h
   | _,_,_=> .no
 | .fieldAddr s x f=>match st.arg key x with
   | some v=>uy P s f v
   | none=> .no
 | .field t x f=>match st.arg key x with
   | some v=>m6 P t f v
   | none=> .no
 | .indexAddr t x i=>match st.arg key x,st.arg key i with
   | some u,some v=>AbT P t key st u v
   | _,_=> .no
 | .index t x i=>match st.arg key x,st.arg key i with
   | some u,some v=>uz P t key u v
   | _,_=> .no
 | .extract x i=>match st.arg key x with
   | some v=>AbU i v
   | none=> .no
 | .nilCheck x=>match st.arg key x with
   | some v=>uA v
   | none=> .no
 | .build t ps=>m8 P t key st ps.toList
 | .makeFunc (.func f) ⟨[]⟩ ahU=>match Je st key ahU.toList with
   | some vs=>match cH vs with
     | some cs=> .ret (.c (.clo false f cs))
     | none=> .no
   | none=> .no
 | .makeFunc (.func f) ⟨x::xs⟩ ⟨[]⟩=>match Je st key (x::xs)with
   | some vs=>match cH vs with
     | some cs=> .ret (.c (.clo true f cs))
     | none=> .no
   | none=> .no
 | .call c=>match c.callee with
   | .builtin b=>match b,c.args.toList,c.argTypes.toList with
     | .len,[x],[t]=>match st.arg key x with
       | some v=>AbV P t st v
       | none=> .no
     | .min,xs,_=>match Je st key xs with
       | some vs=>match Xv vs with
         | some (k,x,ys)=> .ret (AaQ k x ys)
         | none=> .no
       | none=> .no
     | .max,xs,_=>match Je st key xs with
       | some vs=>match Xv vs with
         | some (k,x,ys)=> .ret (AaR k x ys)
         | none=> .no
       | none=> .no
     | _,_,_=> .no
   | _=> .no
 | _=> .no
end Go.PL
namespace Go.PL
open Go Go.RowKit
variable {T:Bm}
section
variable {H:Ax T} {P:Program} {st:Af T} {key:List GL}
theorem AbW {op:UnOp} {x:DV T} {g:Prop} {nx:Nat}:Yl (dun op x) (fun v=>g->v.ok H nx/\(xq op x.toV).1/\(xq op x.toV).2=v.toV):=by
 unfold dun;split
 ·split
  ·exact Yl.ret fun _=>⟨by simp only [DV.ok,DC.ok],trivial,rfl⟩
  ·exact Yl.ret fun _=>⟨by simp only [DV.ok,DC.ok],trivial,rfl⟩
  ·exact Yl.no
 ·split
  ·exact Yl.ret fun _=>⟨by simp only [DV.ok,DC.ok],trivial,rfl⟩
  ·exact Yl.no
 ·exact Yl.no
theorem uB {s d:TypeId} {x:DV T} {g:Prop} {nx:Nat} {z:St}:Yl (ux P s d x) (fun v=>g->v.ok H nx/\(KX P s d z x.toV).1/\(KX P s d z x.toV).2=v.toV):=by
 unfold ux;split
 ·split
  ·rename_i k hk;refine Yl.Tf fun hb=>Yl.ret fun _=>⟨by simp only [DV.ok,DC.ok],?_⟩;simp_all [DV.toV,DC.toC,Bk,KX]
  ·exact Yl.no
 ·refine Yl.Tf fun hb=>Yl.ret fun _=>⟨by simp only [DV.ok,DC.ok],?_⟩;simp only [and_eq_true]at hb;exact⟨hb,rfl⟩
 ·exact Yl.no
theorem S7 (hw:AI H st) (hk:FE H st.nx key) {x:Option Operand} {o:Option Int} (h:yc st key x=some o) (hc:Bb key=true):
 (C9 st.toSt (Bb key) x).1/\((o=none/\(C9 st.toSt (Bb key) x).2=none)\/ ∃ k n,o=some n/\(C9 st.toSt (Bb key) x).2=some (.c (.int k n))):=by
 unfold yc at h;split at h
 ·injection h with h;subst h;exact⟨trivial, .inl ⟨rfl,rfl⟩⟩
 ·split at h
  ·rename_i y k n hy;injection h with h;subst h;obtain⟨_,a,b⟩:=Af.ael hw hk hy hc;exact⟨a, .inr ⟨k,n,rfl,by simp only [C9,b];rfl⟩⟩
  ·cases h
theorem pC {len:Nat} {lo hi:Option Int} {a b:Option V} (ha:(lo=none/\a=none)\/ ∃ k n,lo=some n/\a=some (.c (.int k n))) (hb:(hi=none/\b=none)\/ ∃ k n,hi=some n/\b=some (.c (.int k n))):
 Z5 len a b=some (lo.getD 0,hi.getD len):=by
 rcases ha with ⟨rfl,rfl⟩ | ⟨k,n,rfl,rfl⟩<;>rcases hb with ⟨rfl,rfl⟩ | ⟨k',n',rfl,rfl⟩<;>rfl
theorem uC {s:List UInt8} {lo hi:Option Int}:Yl (AaN (T:=T) key s lo hi) (fun v=>Bb key=true-> ∃ r,Xb s (lo.getD 0) (hi.getD s.length)=some r/\v= .c (.k .str r)):=
 Yl.opt fun r hr=>Yl.ret fun hc=>⟨r,Rv hr hc,rfl⟩
theorem uD {E:Nat} {l:List (T.den E)} {lo hi:Option Int}:Yl (AaO key E l lo hi) (fun v=>Bb key=true-> ∃ r,eQ l (lo.getD 0) (hi.getD l.length)=some r/\v= .c (.k (.t_ E) r)):=
 Yl.opt fun r hr=>Yl.ret fun hc=>⟨r,Rv hr hc,rfl⟩
theorem yd {t:TypeId} {x:DV T} {lo hi:Option Int} {a b:Option V} (ha:Bb key=true->(lo=none/\a=none)\/ ∃ k n,lo=some n/\a=some (.c (.int k n))) (hb:Bb key=true->(hi=none/\b=none)\/ ∃ k n,hi=some n/\b=some (.c (.int k n))) {nx:Nat}:
 Yl (AbS P t key x lo hi) (fun v=>Bb key=true->v.ok H nx/\(Hq P t x.toV a b).1/\(Hq P t x.toV a b).2=v.toV):=by
 unfold AbS;split
 ·rename_i s;refine Yl.Tf fun hs=>uC.mono fun v hv hc=>?_;obtain⟨r,h1,rfl⟩:=hv hc;have hB:=pC (len:=List.length (α:=UInt8) s) (ha hc) (hb hc);refine⟨by simp only [DV.ok,DC.ok],?_⟩;simp only [DV.toV,DC.toC,Bk,Hq];grind [AbJ,AbK]
 ·rename_i E l;split
  ·rename_i e n abg;refine Yl.Tf fun hs=>uD.mono fun v hv hc=>?_;obtain⟨r,h1,rfl⟩:=hv hc;have hn:n=T.sz E:=(by simp_all);subst hn;have hB:=pC (len:=List.length (α:=T.den E) l) (ha hc) (hb hc);refine⟨by simp only [DV.ok,DC.ok],?_⟩;simp only [DV.toV,DC.toC,Bk,Hq,abg];grind [uf,al3,AS,Agz]
  ·exact Yl.no
 ·exact Yl.no
theorem uE {s:TypeId} {f:Nat} {x:DV T} {g:Prop} {nx:Nat} (hx:g->x.ok H nx):Yl (uy P s f x) (fun v=>g->v.ok H nx/\(B6 P s f x.toV).1/\(B6 P s f x.toV).2=v.toV):=by
 unfold uy;split
 ·rename_i o ag n hf;refine Yl.Tf fun hb=>?_;have hb':0<n:=by simp_all
  split
  ·refine Yl.ret fun _=>⟨by simp only [DV.ok,DC.ok],?_⟩;simp_all [DV.toV,DC.toC,B6]
  ·simp_all [Yl.ret,DV.ok,DC.ok,DV.toV,DC.toC,B6,add_assoc]
  ·refine Yl.ret fun hg=>⟨by simp only [DV.ok,DC.ok],?_⟩;simp_all [DV.toV,DC.toC,B6,add_assoc]
  ·refine Yl.ret fun hg=>⟨by simp only [DV.ok,DC.ok],?_⟩;simp_all [DV.toV,DC.toC,B6,add_assoc]
  ·exact Yl.no
 ·exact Yl.no
theorem rB {t:TypeId} {f:Nat} {x:DV T} {g:Prop} {nx:Nat} (hx:g->x.ok H nx):Yl (m6 P t f x) (fun v=>g->v.ok H nx/\(JU P t f x.toV).1/\(JU P t f x.toV).2=v.toV):=by
 unfold m6;split
 ·split
  ·rename_i cs o ag n hf;refine Yl.Tf fun hb=>Yl.ret fun hg=>⟨(by grind [Is,DV.ok]),?_⟩;obtain⟨h1,h2⟩:=CU hb;simp_all [DV.toV,JU,Hy,AO]
  ·exact Yl.no
 ·exact Yl.no
theorem Rz {E:Nat} {l:List (T.den E)} {i:Int} {f:T.den E->DV T}:Yl (jx key E l i f) (fun v=>Bb key=true-> ∃ x,idx l i=some x/\v=f x):=
 Yl.opt fun r hr=>Yl.ret fun hc=>⟨r,Rv hr hc,rfl⟩
theorem ye {t:TypeId} {x y:DV T} {nx:Nat}:Yl (AbT P t key st x y) (fun v=>Bb key=true->v.ok H nx/\(Cp P t st.toSt x.toV y.toV).1/\(Cp P t st.toSt x.toV y.toV).2=v.toV):=by
 unfold AbT;split
 ·rename_i k i;split
  ·rename_i E l;split
   ·rename_i e n hs;refine Yl.Tf fun hn=>Rz.mono fun v hv hc=>?_;have hn:n=T.sz E:=(by simp_all);subst hn;obtain⟨x,h1,rfl⟩:=hv hc;refine⟨by grind [DV.ok,DC.ok],?_⟩;simp only [DV.toV,DC.toC,Bk,Cp,hs,add_zero];exact⟨L7 h1,trivial⟩
   ·exact Yl.no
  ·rename_i id;split
   ·rename_i e n E l hs hb;refine Rz.mono fun v hv hc=>?_;obtain⟨x,h1,rfl⟩:=hv hc;refine⟨by simp only [DV.ok,DC.ok],?_⟩;obtain⟨ee,e1,e2⟩:=Xq hb;simp only [DV.toV,DC.toC,Bk,Cp,hs,e1,e2,add_zero];exact⟨L7 h1,trivial⟩
   ·exact Yl.no
  ·rename_i id off;split
   ·rename_i m e n cs hs hb;split
    ·rename_i l hl;refine Yl.Tf fun hn=>Rz.mono fun v hv hc=>?_;simp only [and_eq_true,beq_eq,ble_eq]at hn;obtain⟨hn,_⟩:=hn;subst hn;obtain⟨x,h1,rfl⟩:=hv hc;refine⟨by simp only [DV.ok,DC.ok],?_⟩;simp only [DV.toV,DC.toC,Bk,Cp,hs,add_zero];have:=L7 h1;rw [(Ex hl).1]at this;grind
    ·exact Yl.no
   ·exact Yl.no
  ·exact Yl.no
 ·exact Yl.no
theorem uF {s:List UInt8} {i:Int}:Yl (AaP (T:=T) key s i) (fun v=>Bb key=true-> ∃ r,SZ s i=some r/\v= .c (.k (.int .u8) r)):=
 Yl.opt fun r hr=>Yl.ret fun hc=>⟨r,Rv hr hc,rfl⟩
theorem uG {t:TypeId} {x y:DV T} {nx:Nat}:Yl (uz P t key x y) (fun v=>Bb key=true->v.ok H nx/\(IW P t x.toV y.toV).1/\(IW P t x.toV y.toV).2=v.toV):=by
 unfold uz;split
 ·rename_i k i;split
  ·rename_i s;refine Yl.Tf fun hs=>uF.mono fun v hv hc=>?_;obtain⟨r,h1,rfl⟩:=hv hc;grind [DV.ok,DC.ok,DV.toV,DC.toC,Bk,IW,AbH,AbI]
  ·rename_i cs;split
   ·rename_i m e n hs;split
    ·rename_i ag n' l ht hl;refine Yl.Tf fun hn=>Rz.mono fun v hv hc=>?_;simp only [and_eq_true,beq_eq,blt_eq]at hn;obtain⟨hn,h0,hlen⟩:=hn;subst hn;obtain⟨x,h1,rfl⟩:=hv hc;obtain⟨hl1,r,hl2⟩:=Ex hl;have:=eT (cs:=Av cs) (pre:=[]) (post:=r) (base:=0) (e:=T.enc e) (N:=T.sz e) (o:=0) (n:=T.sz e) (ag:=ag) (v:=(C8 (T:=T) ag 0 (T.sz e) (eW e x)).toV) (off:=i.toNat*T.sz e)
      (by grind) rfl h1 (fun y=>AS e y) (by omega) (by omega) (.inr h0) (by rw [Hy,GO])
     grind [Is,MR,L7,DV.toV,DC.toC,Bk,IW]
    ·exact Yl.no
   ·exact Yl.no
  ·exact Yl.no
 ·exact Yl.no
theorem cI: ∀ (vs:List (DV T)) (i:Nat),(Be vs).getD i .undef =(vs.getD i .u).toV
 | [],_=>by simp [Be,DV.toV]
 | v::vs,0=>by simp [Be]
 | v::vs,i+1=>by simpa [Be] using cI vs i
theorem Iu (vs:List (DV T)):(Be vs).length =vs.length:=by simp [Ob]
theorem yf {i:Nat} {x:DV T} {g:Prop} {nx:Nat} (hx:g->x.ok H nx):Yl (AbU i x) (fun v=>g->v.ok H nx/\(mr i x.toV).1/\(mr i x.toV).2=v.toV):=by
 unfold AbU;split
 ·rename_i vs;refine Yl.Tf fun hb=>Yl.ret fun hg=>⟨?_,?_⟩
  ·grind [DV.ok,Oc]
  ·simp only [DV.toV,mr,cI,Iu];simp_all
 ·exact Yl.no
theorem uH {x:DV T} {g:Prop} {nx:Nat} (hx:g->x.ok H nx):Yl (uA x) (fun v=>g->v.ok H nx/\(Z6 x.toV).1/\(Z6 x.toV).2=v.toV):=by
 unfold uA;split
 ·exact Yl.ret fun hg=>⟨hx hg,trivial,rfl⟩
 ·exact Yl.ret fun hg=>⟨hx hg,trivial,rfl⟩
 ·grind [Yl.ret,DV.toV,DC.toC,Z6]
 ·grind [Yl.ret,DV.toV,DC.toC,Z6]
 ·grind [Yl.ret,DV.toV,DC.toC,Z6]
 ·rename_i b f cs;refine Yl.ret fun hg=>⟨hx hg,?_⟩;cases b<;>simp only [DV.toV,DC.toC,Z6]<;>exact(by grind)
 ·exact Yl.no
theorem yg {t:TypeId} {x:DV T} {nx:Nat} {g:Prop}:Yl (AbV P t st x) (fun v=>g->v.ok H nx/\(P7 P t st.toSt x.toV).1/\(P7 P t st.toSt x.toV).2=v.toV):=by
 unfold AbV;split
 ·exact Yl.Tf fun hb=>Yl.ret fun _=>⟨by simp only [DV.ok,DC.ok],hb,rfl⟩
 ·exact Yl.Tf fun hb=>Yl.ret fun _=>⟨by simp only [DV.ok,DC.ok],hb,rfl⟩
 ·split
  ·rename_i id E l hr;refine Yl.Tf fun hb=>Yl.ret fun _=>⟨by simp only [DV.ok,DC.ok],?_⟩;obtain⟨ee,e1,e2⟩:=Xq hr;simp_all [DV.toV,DC.toC,Bk,P7]
  ·exact Yl.no
 ·exact Yl.Tf fun hb=>Yl.ret fun _=>⟨by simp only [DV.ok,DC.ok],hb,rfl⟩
 ·split
  ·rename_i k e n ha;refine Yl.ret fun _=>⟨by simp only [DV.ok,DC.ok],?_⟩;simp_all [DV.toV,DC.toC,Bk,P7]
  ·exact Yl.no
 ·split
  ·rename_i k e n ha;refine Yl.ret fun _=>⟨by simp only [DV.ok,DC.ok],?_⟩;simp_all [DV.toV,DC.toC,Bk,P7]
  ·exact Yl.no
 ·exact Yl.no
theorem Dq (hw:AI H st) (hk:FE H st.nx key) (hc:Bb key=true): ∀ {xs:List Operand} {vs:List (DV T)},Je st key xs=some vs->
 CZ H st.nx vs/\(st.toSt.args (Bb key) xs).1/\(st.toSt.args (Bb key) xs).2=Be vs
 | [],vs,h=>by grind [Je,CZ,St.args,Be]
 | x::xs,vs,h=>by
   unfold Je at h;split at h
   ·rename_i v vs' h1 h2;injection h with h;subst h;obtain⟨a,b,c⟩:=Af.ael hw hk h1 hc;obtain⟨a',b',c'⟩:=Dq hw hk hc h2;simp_all [CZ,St.args,Be]
   ·cases h
theorem Qm: ∀ {vs:List (DV T)} {r:IntKind×Int×List Int},Xv vs=some r->LC (Be vs)=some r
 | [],_,h=>by simp [Xv]at h
 | [v],r,h=>by
   unfold Xv at h;split at h
   ·rename_i k x he;injection he with he;subst he;injection h with h;subst h;rfl
   all_goals grind
 | v::v'::vs,r,h=>by
   unfold Xv at h;split at h
   ·grind
   ·rename_i k x vs' _ he;injection he with h1 h2;subst h1 h2;split at h
    ·rename_i k' y ys h3;injection h with h;subst h;have:=Qm h3;simp_all [Be,DV.toV,DC.toC,Bk,LC]
    ·cases h
   ·cases h
theorem jy {v:Value} {c:DC T} (h:m7 v=some c):WR v=some c.toC/\c.ok:=by
 unfold m7 at h;split at h
 ·injection h with h;subst h;exact⟨rfl,by simp only [DC.ok]⟩
 ·injection h with h;subst h;exact⟨rfl,by simp only [DC.ok]⟩
 ·injection h with h;subst h;exact⟨rfl,by simp only [DC.ok]⟩
 grind [DC.toC,DC.ok]
theorem RA: ∀ {vs:List Value} {cs:List (DC T)},Ry vs=some cs->Ji vs=some (Av cs)/\Cl cs
 | [],cs,h=>by grind [Ry,Ji,Av,Cl]
 | v::vs,cs,h=>by
   unfold Ry at h;split at h
   ·rename_i c cs' h1 h2;injection h with h;subst h;obtain⟨a,b⟩:=jy h1;obtain⟨a',b'⟩:=RA h2;simp [Ji,a,a',Av,Cl,b,b']
   ·cases h
theorem Of {t:TypeId} {cs:List (DC T)} (h:Xw P t=some cs):UF P t=some (Av cs)/\Cl cs:=by grind [Xw,UF,RA]
theorem DV.acQ {v:DV T} {cs:List (DC T)} (h:v.cells=some cs):v.toV.cells=some (Av cs)/\(∀ {H:Ax T} {nx:Nat},v.ok H nx->Cl cs):=by unfold DV.cells at h;grind [DV.toV,V.cells,Av,Cl,DV.ok]
def jz (l:List (Nat×DV T)):List (Nat×V):=l.map fun x=>(x.1,x.2.toV)
theorem Gx (hw:AI H st) (hk:FE H st.nx key) (hc:Bb key=true): ∀ {ps:List (Nat×Operand)} {vs:List (Nat×DV T)},HB st key ps=some vs->
 (∀ x∈vs,x.2.ok H st.nx)/\(st.toSt.parts (Bb key) ps).1/\(st.toSt.parts (Bb key) ps).2=jz vs
 | [],vs,h=>by grind [HB,St.parts,jz]
 | (i,x)::r,vs,h=>by
   unfold HB at h;split at h
   ·rename_i v vs' h1 h2;injection h with h;subst h;obtain⟨a,b,c⟩:=Af.ael hw hk h1 hc;obtain⟨a',b',c'⟩:=Gx hw hk hc h2;simp only [St.parts,jz,c,c',map_cons];grind
   ·cases h
theorem Kl {place:Nat->Option (Nat×Nat)}: ∀ {vs:List (Nat×DV T)} {cells cs:List (DC T)},U4 place cells vs=some cs->
 Jc place (Av cells) (jz vs)=some (Av cs)/\ ∀ {H:Ax T} {nx:Nat},Cl cells->(∀ x∈vs,x.2.ok H nx)->Cl cs
 | [],cells,cs,h=>by simp [U4]at h;subst h;exact⟨rfl,fun hc _=>hc⟩
 | (i,v)::rest,cells,cs,h=>by
   unfold U4 at h;split at h
   ·rename_i off size ds h1 h2;split at h
    ·rename_i hb;simp only [and_eq_true,beq_eq,ble_eq]at hb;obtain⟨a,b⟩:=DV.acQ h2;obtain⟨a',b'⟩:=Kl h;refine⟨?_,fun hc hv=>b' (Df (S3 hc _) (Df (b (hv (i,v) (by simp))) (S4 hc _))) (fun x hx=>hv x (by simp [hx]))⟩;simp only [jz,map_cons,Jc,h1,a];rw [if_pos (by rw [AO,AO];exact hb)];rw [<-a',CT,CT,JE,Gv,List.append_assoc];rfl
    ·cases h
   ·cases h
theorem Qn: ∀ {vs:List (DV T)} {cs:List (DC T)},cH vs=some cs->eD (Be vs)=some (Av cs)/\ ∀ {H:Ax T} {nx:Nat},CZ H nx vs->Cl cs
 | [],cs,h=>by grind [cH,Be,eD,Av,Cl]
 | v::vs,cs,h=>by
   unfold cH at h;split at h
   ·cases ‹_=([]:List (DV T))›
   ·rename_i x vs' he;injection he with h1 h2;subst h1 h2;split at h
    ·rename_i cs' hcs;injection h with h;subst h;obtain⟨a,b⟩:=Qn hcs;refine⟨by simp [Be,DV.toV,eD,a,Av],fun hv=>?_⟩;simp only [CZ,DV.ok]at hv;simp only [Cl];exact⟨hv.1,b hv.2⟩
    ·cases h
   ·cases h
theorem rC (hw:AI H st) (hk:FE H st.nx key) {t:TypeId} {ps:List (Nat×Operand)}:
 Yl (m8 P t key st ps) (fun v=>Bb key=true->v.ok H st.nx/\(N5 P st.toSt (Bb key) t ps).1/\(N5 P st.toSt (Bb key) t ps).2=v.toV):=by
 unfold m8;split
 ·rename_i z vs hz hp;split
  ·rename_i cs hf;refine Yl.Tf fun ho=>Yl.ret fun hc=>?_;obtain⟨a,b⟩:=Of hz;obtain⟨p1,p2,p3⟩:=Gx hw hk hc hp;obtain⟨q1,q2⟩:=Kl hf;refine⟨by simp only [DV.ok];exact q2 b p1,?_⟩;simp_all [N5,DV.toV]
  ·exact Yl.no
 ·exact Yl.no
theorem uI {y:Operand} {v:DV T} (h:st.arg key y=some v):AaM (ur y) (ut y) v:=by
 intro k b hv;subst hv;have hc: ∀ (k':IntKind) (n:Int),y= .const (.int k' n)->b=n:=by grind [Af.arg,Af.ev,S2,UY]
 constructor
 ·intro h1;unfold ur at h1;grind
 ·intro h1;unfold ut at h1;grind
theorem Ma (hw:AI H st) (hk:FE H st.nx key) (op:Op):Yl (L9 P key st op) (Rd H P st key op):=by
 have A: ∀ {x:Operand} {v:DV T},st.arg key x=some v->Bb key=true->v.ok H st.nx/\(st.toSt.arg (Bb key) x).1/\(st.toSt.arg (Bb key) x).2=v.toV:=(by grind [Af.ael]);unfold L9;split
 ·exact Yl.sm fun v hv hc=>A hv hc
 ·exact Yl.sm fun v hv hc=>A hv hc
 ·rename_i c a b;split
  ·rename_i p hp;refine(uv hw hk hp).mono fun v hv hc=>?_;grind [DV.toV,DC.toC,Bk,D7,rd,Q_]
  ·exact Yl.no
 ·rename_i t x;split
  ·rename_i v hx;refine(Xs hw (by grind)).mono fun r hr hc=>?_;grind [D7,rd,Q_]
  ·exact Yl.no
 ·rename_i op t x y ty;split
  ·rename_i u v hx hy;refine(yb (H:=H) (st:=st) (uI hy)).mono fun r hr hc=>?_;obtain⟨q0,q1,q2⟩:=hr hc;obtain⟨_,k1,k2⟩:=A hx hc;obtain⟨_,k3,k4⟩:=A hy hc;refine⟨q0,?_⟩;have e:D7 P st.toSt (Bb key) (.binOp op t x y ty)=((st.toSt.arg (Bb key) x).1/\(st.toSt.arg (Bb key) y).1/\(MP P op t (BN x||BN y) (st.toSt.arg (Bb key) x).2 (st.toSt.arg (Bb key) y).2).1,(MP P op t (BN x||BN y) (st.toSt.arg (Bb key) x).2 (st.toSt.arg (Bb key) y).2).2):=by
    simp only [D7];unfold MP;split
    ·grind
    ·rename_i Tg;split
     ·grind
     ·rfl
   grind
  ·exact Yl.no
 ·rename_i op t x;split
  ·rename_i v hx;refine(AbW (H:=H) (g:=Bb key=true) (nx:=st.nx)).mono fun r hr hc=>?_;grind [D7,rd,Q_]
  ·exact Yl.no
 ·rename_i s d x;split
  ·rename_i v hx;refine(uB (H:=H) (g:=Bb key=true) (nx:=st.nx) (z:=st.toSt)).mono fun r hr hc=>?_;grind [D7,rd,Q_]
  ·exact Yl.no
 ·rename_i t x lo hi;split
  ·rename_i v l h hx hl hh;refine(yd (H:=H) (nx:=st.nx) (a:=(C9 st.toSt (Bb key) lo).2) (b:=(C9 st.toSt (Bb key) hi).2) (fun hc=>(S7 hw hk hl hc).2) (fun hc=>(S7 hw hk hh hc).2)).mono fun r hr hc=>?_;grind [D7,rd,Q_,S7]
  ·exact Yl.no
 ·rename_i s x f;split
  ·rename_i v hx;refine(uE (H:=H) (g:=Bb key=true) (nx:=st.nx) (by grind)).mono fun r hr hc=>?_;grind [D7,rd,Q_]
  ·exact Yl.no
 ·rename_i t x f;split
  ·rename_i v hx;refine(rB (H:=H) (g:=Bb key=true) (nx:=st.nx) (by grind)).mono fun r hr hc=>?_;grind [D7,rd,Q_]
  ·exact Yl.no
 ·rename_i t x y;split
  ·rename_i u v hx hy;refine(ye (H:=H) (nx:=st.nx)).mono fun r hr hc=>?_;grind [D7,rd,Q_]
  ·exact Yl.no
 ·rename_i t x y;split
  ·rename_i u v hx hy;refine(uG (H:=H) (nx:=st.nx)).mono fun r hr hc=>?_;grind [D7,rd,Q_]
  ·exact Yl.no
 ·rename_i x i;split
  ·rename_i v hx;refine(yf (H:=H) (g:=Bb key=true) (nx:=st.nx) (by grind)).mono fun r hr hc=>?_;grind [D7,rd,Q_]
  ·exact Yl.no
 ·rename_i x;split
  ·rename_i v hx;refine(uH (H:=H) (g:=Bb key=true) (nx:=st.nx) (by grind)).mono fun r hr hc=>?_;grind [D7,rd,Q_]
  ·exact Yl.no
 ·exact rC hw hk
 ·rename_i f ahU;split
  ·rename_i vs hvs;split
   ·rename_i cs hcs;refine Yl.ret fun hc=>?_;obtain⟨a,b,c⟩:=Dq hw hk hc hvs;obtain⟨d,e⟩:=Qn hcs;refine⟨by grind [DV.ok,DC.ok],?_⟩;simp_all [D7,DV.toV,DC.toC]
   ·exact Yl.no
  ·exact Yl.no
 ·rename_i f x xs;split
  ·rename_i vs hvs;split
   ·rename_i cs hcs;refine Yl.ret fun hc=>?_;obtain⟨a,b,c⟩:=Dq hw hk hc hvs;obtain⟨d,e⟩:=Qn hcs;refine⟨by grind [DV.ok,DC.ok],?_⟩;simp_all [D7,DV.toV,DC.toC]
   ·exact Yl.no
  ·exact Yl.no
 ·rename_i c;split
  ·rename_i b hb;split
   ·rename_i x t h1 h2;split
    ·rename_i v hx;refine(yg (H:=H) (g:=Bb key=true) (nx:=st.nx)).mono fun r hr hc=>?_;grind [D7,rd,Qa,Q_]
    ·exact Yl.no
   ·split
    ·rename_i vs hvs;split
     ·rename_i k x ys hi;refine Yl.ret fun hc=>?_;obtain⟨a,b',c'⟩:=Dq hw hk hc hvs;refine⟨by simp only [AaQ,DV.ok,DC.ok],?_⟩;simp only [D7,rd,hb,Qa,c',ml,Qm hi];exact⟨⟨b',trivial⟩,rfl⟩
     ·exact Yl.no
    ·exact Yl.no
   ·split
    ·rename_i vs hvs;split
     ·rename_i k x ys hi;refine Yl.ret fun hc=>?_;obtain⟨a,b',c'⟩:=Dq hw hk hc hvs;refine⟨by simp only [AaR,DV.ok,DC.ok],?_⟩;simp only [D7,rd,hb,Qa,c',mn,Qm hi];exact⟨⟨b',trivial⟩,rfl⟩
     ·exact Yl.no
    ·exact Yl.no
   ·exact Yl.no
  ·exact Yl.no
 ·exact Yl.no
end
end Go.PL
namespace Go.PL
open Go Go.RowKit
variable {T:Bm}
def Af.put (st:Af T) (d:Option Nat) (v:DV T):Af T:=match d with
 | some d=>{st with tm:=(d,st.nx,v)::st.tm,nx:=st.nx+1}
 | none=>st
theorem jA (m d t:Nat) (v:DV T) (tm:Tm T):AE m ((d,t,v)::tm)=(AE m tm).set d v.toV:=by
 apply ext_getElem?;intro i;unfold AE;rw [List.getElem?_set];simp only [getElem?_map,List.length_map,List.length_range];by_cases hi:i<m
 ·rw [List.getElem?_range hi];simp only [map_some,lk];by_cases hd:d=i
  ·simp_all
  grind [eq_of_beq_eq_true]
 grind
theorem Af.k_ (st:Af T) (d:Option Nat) (v:DV T):(st.put d v).toSt =st.toSt.put d v.toV:=by cases d<;>grind [Af.put,Af.toSt,St.put,jA]
def Ax.afk (H:Ax T) (t:Nat) (v:DV T):Ax T:=⟨fun i=>if i=t then v else H.v i,H.e⟩
def Ax.Tp (H:Ax T) (t:Nat) (e:DE T):Ax T:=⟨H.v,fun i=>if i=t then e else H.e i⟩
theorem Da.afk (H:Ax T) (t:Nat) (v:DV T):Da t H (H.afk t v):=fun i hi=>⟨by simp only [Ax.afk];grind,rfl⟩
theorem Da.Tp (H:Ax T) (t:Nat) (e:DE T):Da t H (H.Tp t e):=fun i hi=>⟨rfl,by simp only [Ax.Tp];grind⟩
structure Nx (H:Ax T) (st:Af T) (H':Ax T) (a_:Af T):Prop where
 ext:Da st.nx H H'
 le:st.nx<=a_.nx
 ok:AI H' a_
theorem Nx.refl {H:Ax T} {st:Af T} (h:AI H st):Nx H st H st:=⟨Da.refl _ _,le_refl _,h⟩
theorem Nx.trans {H H' H'':Ax T} {a b c:Af T} (h:Nx H a H' b) (k:Nx H' b H'' c):Nx H a H'' c:=⟨h.ext.trans k.ext h.le,Nat.le_trans h.le k.le,k.ok⟩
theorem FG {H H':Ax T} {n m:Nat} (he:Da n H H') (hnm:n<=m) {l:List (DE T)} (h: ∀ e∈l,e.tag<n/\H.e e.tag=e/\e.x.ok): ∀ e∈l,e.tag<m/\H'.e e.tag=e/\e.x.ok:=fun e hm=>by obtain⟨a,b,c⟩:=h e hm;exact⟨(by grind),by rw [(he e.tag a).2];exact b,c⟩
theorem Af.aai {H:Ax T} {st:Af T} (h:AI H st) (d:Option Nat) {v:DV T} (hv:v.ok H st.nx): ∃ H',Nx H st H' (st.put d v):=by
 cases d with
 | none=>exact⟨H,Nx.refl h⟩
 | some d=>
   have he:=Da.afk H st.nx v;refine⟨H.afk st.nx v,he,by simp [Af.put],?_,?_,?_,h.nd⟩
   ·intro s t w hm;simp only [Af.put]at hm ⊢;rcases mem_cons.1 hm with hm | hm
    ·injection hm with h1 hm;injection hm with h2 h3;subst h1 h2 h3;exact⟨Nat.lt_succ_self _,by simp [Ax.afk],DV.acI he (le_succ _) hv⟩
    ·exact B3 he (le_succ _) h.tm s t w hm
   ·intro f hf;exact B3 he (le_succ _) (h.gh f hf)
   ·exact FG he (le_succ _) h.so
def PA (p:DV T->Bool) (f:DV T->DV T):Nat->Tm T->Tm T
 | _,[]=>[]
 | n,(s,t,v)::r=>match p v with
   | true=>(s,n,f v)::PA p f (n+1) r
   | false=>(s,t,v)::PA p f (n+1) r
def Qo (p:DV T->Bool) (f:DV T->DV T):Nat->List (Nat×Tm T)->List (Nat×Tm T)
 | _,[]=>[]
 | n,(m,tm)::r=>(m,PA p f n tm)::Qo p f (n+tm.length) r
def Nv:List (Nat×Tm T)->Nat
 | []=>0
 | (_,tm)::r=>tm.length+Nv r
def Qp (q:DX T->Bool) (g:DX T->DX T):Nat->List (DE T)->List (DE T)
 | _,[]=>[]
 | n,e::r=>match q e.x with
   | true=>⟨e.id,n,g e.x⟩::Qp q g (n+1) r
   | false=>e::Qp q g (n+1) r
def Af.adE (p:DV T->Bool) (f:DV T->DV T) (q:DX T->Bool) (g:DX T->DX T) (st:Af T):Af T:=
 {st with tm:=PA p f st.nx st.tm,gh:=Qo p f (st.nx+st.tm.length) st.gh,so:=Qp q g (st.nx+st.tm.length+Nv st.gh) st.so,nx:=st.nx+st.tm.length+Nv st.gh+st.so.length}
section
variable {p:DV T->Bool} {f:DV T->DV T} {q:DX T->Bool} {g:DX T->DX T}
theorem Ws (hf: ∀ {H:Ax T} {n:Nat} {v:DV T},v.ok H n->(f v).ok H n): ∀ (tm:Tm T) (n:Nat) (H:Ax T),Qk H n tm-> ∃ H',Da n H H'/\Qk H' (n+tm.length) (PA p f n tm)
 | [],n,H,_=>⟨H,Da.refl _ _,fun _ _ _ h=>by cases h⟩
 | (s,t,v)::r,n,H,h=>by
   obtain⟨a,b,c⟩:=h s t v (by simp);have hr:Qk H n r:=fun s' t' v' hm=>h s' t' v' (by simp [hm]);unfold PA;split
   ·have he:=Da.afk H n (f v);obtain⟨H',h1,h2⟩:=Ws hf r (n+1) (H.afk n (f v)) (B3 he (le_succ _) hr);refine⟨H',he.trans h1 (le_succ _),fun s' t' v' hm=>?_⟩;rw [show n+((s,t,v)::r).length =n+1+r.length by simp;omega];rcases mem_cons.1 hm with hm | hm
    ·injection hm with e1 hm;injection hm with e2 e3;subst e1 e2 e3;refine⟨by omega,?_,DV.acI (he.trans h1 (le_succ _)) (by omega) (hf c)⟩;rw [(h1 t' (by omega)).1];simp [Ax.afk]
    ·exact h2 s' t' v' hm
   ·obtain⟨H',h1,h2⟩:=Ws hf r (n+1) H (B3 (Da.refl _ _) (le_succ _) hr);have h1':Da n H H':=fun i hi=>h1 i (by omega);refine⟨H',h1',fun s' t' v' hm=>?_⟩;rw [show n+((s,t,v)::r).length =n+1+r.length by simp;omega];rcases mem_cons.1 hm with hm | hm
    ·injection hm with e1 hm;injection hm with e2 e3;subst e1 e2 e3;refine⟨by omega,?_,DV.acI h1' (by omega) c⟩;rw [(h1' t' a).1];exact b
    ·exact h2 s' t' v' hm
theorem pE (hf: ∀ {H:Ax T} {n:Nat} {v:DV T},v.ok H n->(f v).ok H n): ∀ (l:List (Nat×Tm T)) (n:Nat) (H:Ax T),(∀ x∈l,Qk H n x.2)-> ∃ H',Da n H H'/\ ∀ x∈Qo p f n l,Qk H' (n+Nv l) x.2
 | [],n,H,_=>⟨H,Da.refl _ _,fun _ h=>by cases h⟩
 | (m,tm)::r,n,H,h=>by
   obtain⟨H1,a,b⟩:=Ws (p:=p) hf tm n H (h (m,tm) (by simp));obtain⟨H2,c,d⟩:=pE hf r (n+tm.length) H1 (by grind [B3]);refine⟨H2,a.trans c (by omega),fun x hx=>?_⟩;have e:n+Nv ((m,tm)::r)=n+tm.length+Nv r:=by simp [Nv];omega
   rw [e];rcases mem_cons.1 hx with rfl | hx
   all_goals grind [B3]
theorem eX (hg: ∀ {x:DX T},x.ok->(g x).ok): ∀ (l:List (DE T)) (n:Nat) (H:Ax T),(∀ e∈l,e.tag<n/\H.e e.tag=e/\e.x.ok)-> ∃ H',Da n H H'/\ ∀ e∈Qp q g n l,e.tag<n+l.length/\H'.e e.tag=e/\e.x.ok
 | [],n,H,_=>⟨H,Da.refl _ _,fun _ h=>by cases h⟩
 | e::r,n,H,h=>by
   obtain⟨a,b,c⟩:=h e (by simp);have hr: ∀ e∈r,e.tag<n/\H.e e.tag=e/\e.x.ok:=(by grind);unfold Qp;split
   ·have he:=Da.Tp H n ⟨e.id,n,g e.x⟩;obtain⟨H',h1,h2⟩:=eX hg r (n+1) (H.Tp n ⟨e.id,n,g e.x⟩) (FG he (le_succ _) hr);refine⟨H',he.trans h1 (le_succ _),fun x hm=>?_⟩;rw [show n+(e::r).length =n+1+r.length by simp;omega];rcases mem_cons.1 hm with rfl | hm
    ·refine⟨by grind,?_,hg c⟩;simp only;rw [(h1 n (by omega)).2];simp [Ax.Tp]
    grind
   ·obtain⟨H',h1,h2⟩:=eX hg r (n+1) H (by grind);have h1':Da n H H':=fun i hi=>h1 i (by omega);refine⟨H',h1',fun x hm=>?_⟩;rw [show n+(e::r).length =n+1+r.length by simp;omega];rcases mem_cons.1 hm with rfl | hm
    ·exact⟨by omega,by rw [(h1' x.tag a).2];exact b,c⟩
    grind
theorem jB: ∀ (l:List (DE T)) (n:Nat),(Qp q g n l).map DE.id=l.map DE.id
 | [],_=>rfl
 | e::r,n=>by unfold Qp;split<;>simp [jB r]
theorem Af.adW {H:Ax T} {st:Af T} (h:AI H st) (hf: ∀ {H:Ax T} {n:Nat} {v:DV T},v.ok H n->(f v).ok H n) (hg: ∀ {x:DX T},x.ok->(g x).ok): ∃ H',Nx H st H' (st.adE p f q g):=by
 obtain⟨H1,a1,b1⟩:=Ws (p:=p) hf st.tm st.nx H h.tm;obtain⟨H2,a2,b2⟩:=pE (p:=p) hf st.gh (st.nx+st.tm.length) H1 (fun x hx=>B3 a1 (by omega) (h.gh x hx));obtain⟨H3,a3,b3⟩:=eX (q:=q) hg st.so (st.nx+st.tm.length+Nv st.gh) H2 (FG (a1.trans a2 (by omega)) (by omega) h.so);have a23:Da (st.nx+st.tm.length) H1 H3:=a2.trans a3 (by omega);refine⟨H3,a1.trans a23 (by omega),by grind [Af.adE],?_,?_,b3,by simp only [Af.adE,jB];exact h.nd⟩
 all_goals grind [B3,Af.adE]
theorem MS (hu:p .u =false) (i:Nat): ∀ (tm:Tm T) (n:Nat),lk (PA p f n tm) i=(match p (lk tm i)with | true=>f (lk tm i) | false=>lk tm i)
 | [],n=>by simp [PA,lk,hu]
 | (s,t,v)::r,n=>by
   unfold PA;split
   ·rename_i hp;simp only [lk];cases Nat.beq s i with
    | true=>simp only [hp]
    | false=>exact MS hu i r (n+1)
   ·rename_i hp;simp only [lk];cases Nat.beq s i with
    | true=>simp only [hp]
    | false=>exact MS hu i r (n+1)
theorem jC {F:V->V} (hu:p .u =false) {tm:Tm T} (h1: ∀ i,p (lk tm i)=true->(f (lk tm i)).toV =F (lk tm i).toV) (h2: ∀ i,p (lk tm i)=false->F (lk tm i).toV =(lk tm i).toV) (m n:Nat):AE m (PA p f n tm)=(AE m tm).map F:=by unfold AE;rw [map_map];apply map_congr_left;intro i _;simp only [Function.comp,MS hu];grind
theorem jD {F:V->V} (hu:p .u =false): ∀ {l:List (Nat×Tm T)} (n:Nat),(∀ x∈l, ∀ i,(p (lk x.2 i)=true->(f (lk x.2 i)).toV =F (lk x.2 i).toV)/\(p (lk x.2 i)=false->F (lk x.2 i).toV =(lk x.2 i).toV))->
 (Qo p f n l).flatMap (fun f=>AE f.1 f.2)=(l.flatMap fun f=>AE f.1 f.2).map F
 | [],_,_=>rfl
 | (m,tm)::r,n,h=>by simp only [Qo,flatMap_cons,map_append];rw [jD hu (n+tm.length) (fun x hx=>h x (by simp [hx])),jC hu (fun i=>(h (m,tm) (by simp) i).1) (fun i=>(h (m,tm) (by simp) i).2)]
theorem Og {F:Au->Au}: ∀ {l:List (DE T)} (n:Nat),(∀ e∈l,(q e.x=true-> ∀ t,(⟨e.id,t,g e.x⟩:DE T).toE =F e.toE)/\(q e.x=false->F e.toE=e.toE))->(Qp q g n l).map DE.toE=(l.map DE.toE).map F
 | [],_,_=>rfl
 | e::r,n,h=>by
   have ih:=Og (n+1) (fun x hx=>h x (by simp [hx])) (l:=r);unfold Qp;split
   ·rename_i hq;simp only [map_cons,ih,(h e (by simp)).1 hq]
   ·rename_i hq;simp only [map_cons,ih,(h e (by simp)).2 hq]
end
theorem CW (a b:Ah):Bc a b=(a==b):=by grind [AP]
def yh (id:Ah):C->Bool
 | .j_ i=>Bc i id
 | .ptr i _=>Bc i id
 | .bsl i _ _=>Bc i id
 | .rsl i _ _ _=>Bc i id
 | .bld i _=>Bc i id
 | .afo i=>Bc i id
 | .clo _ cs=>BU id cs
 | .bmv _ cs=>BU id cs
 | _=>false
theorem yi (id:Ah) (c:C):yh id c=c.p_ id:=by cases c<;>simp only [yh,C.p_,CW]
mutual
def DC.p_ (id:Ah):DC T->Bool
 | .c x=>yh id x
 | .rp i _ _ _=>Bc i id
 | .ap i _ _ _ _ _=>Bc i id
 | .bs i _ _ _=>Bc i id
 | .clo _ _ cs=>RB id cs
 | .k _ _=>false
 | .ip .. =>false
def RB (id:Ah):List (DC T)->Bool
 | []=>false
 | c::cs=>match c.p_ id with
   | true=>true
   | false=>RB id cs
end
mutual
theorem DC.agZ (id:Ah): ∀ c:DC T,c.p_ id=c.toC.p_ id
 | .c x=>by simp only [DC.p_,DC.toC,yi]
 | .rp .. =>by simp only [DC.p_,DC.toC,C.p_,CW]
 | .ap .. =>by simp only [DC.p_,DC.toC,C.p_,CW]
 | .bs .. =>by simp only [DC.p_,DC.toC,C.p_,CW]
 | .clo true _ cs=>by simp only [DC.p_,DC.toC,C.p_,Oh id cs]
 | .clo false _ cs=>by simp only [DC.p_,DC.toC,C.p_,Oh id cs]
 | .k kd x=>by cases kd<;>simp only [DC.p_,DC.toC,Bk,C.p_]
 | .ip .. =>by simp only [DC.p_,DC.toC,C.p_]
theorem Oh (id:Ah): ∀ cs:List (DC T),RB id cs=BU id (Av cs)
 | []=>by simp only [RB,Av,BU]
 | c::cs=>by simp only [RB,Av,BU,DC.agZ id c,Oh id cs];cases c.toC.p_ id<;>rfl
end
mutual
def DV.p_ (id:Ah):DV T->Bool
 | .c x=>x.p_ id
 | .agg cs=>RB id cs
 | .tup vs=>cJ id vs
 | .g _ v=>v.p_ id
 | .u =>false
def cJ (id:Ah):List (DV T)->Bool
 | []=>false
 | v::vs=>match v.p_ id with
   | true=>true
   | false=>cJ id vs
end
mutual
theorem DV.agY (id:Ah): ∀ v:DV T,v.p_ id=false->v.toV.p_ id=false
 | .c x,h=>by grind [DV.p_,DV.toV,V.p_,DC.agZ]
 | .agg cs,h=>by grind [DV.p_,DV.toV,V.p_,Oh]
 | .tup vs,h=>by simp only [DV.p_]at h;simp only [DV.toV,V.p_];exact jE id vs h
 | .g k v,h=>by simp only [DV.p_]at h;simp only [DV.toV,V.p_,DV.agY id v h,Bool.false_and]
 | .u,_=>by simp only [DV.toV,V.p_]
theorem jE (id:Ah): ∀ vs:List (DV T),cJ id vs=false->LA id (Be vs)=false
 | [],_=>by simp only [Be,LA]
 | v::vs,h=>by
   simp only [cJ]at h;split at h
   ·cases h
   ·rename_i hv;simp only [Be,LA,DV.agY id v hv,jE id vs h,Bool.or_self]
end
def Xx (id:Ah) (c:DC T):DC T:=match c.p_ id with
 | true=> .c .any
 | false=>c
def DX.p_ (id:Ah):DX T->Bool
 | .box cs=>RB id cs
 | .row _ _=>false
 | .deep .. =>false
def Oi (id:Ah):DX T->DX T
 | .box cs=> .box (cs.map (Xx id))
 | x=>x
def jF (p:DV T->Bool):Tm T->Bool
 | []=>true
 | (_,_,v)::r=>match p v with
   | true=>jF p r
   | false=>false
def pG (p:DV T->Bool):List (Nat×Tm T)->Bool
 | []=>true
 | (_,tm)::r=>match jF p tm with
   | true=>pG p r
   | false=>false
def pH (q:DX T->Bool):List (DE T)->Bool
 | []=>true
 | e::r=>match q e.x with
   | true=>pH q r
   | false=>false
theorem Qq {p:DV T->Bool} (hu:p .u =true): ∀ {tm:Tm T},jF p tm=true-> ∀ i,p (lk tm i)=true
 | [],_,i=>hu
 | (s,t,v)::r,h,i=>by
   simp only [jF]at h;split at h
   ·rename_i hv;simp only [lk];cases Nat.beq s i
    ·exact Qq hu h i
    ·exact hv
   ·cases h
theorem Xy {p:DV T->Bool} (hu:p .u =true): ∀ {l:List (Nat×Tm T)},pG p l=true-> ∀ x∈l, ∀ i,p (lk x.2 i)=true
 | [],_,x,hx,_=>by cases hx
 | (m,tm)::r,h,x,hx,i=>by
   simp only [pG]at h;split at h
   ·rename_i hv;rcases mem_cons.1 hx with rfl | hx
    ·exact Qq hu hv i
    ·exact Xy hu h x hx i
   ·cases h
theorem Xz {q:DX T->Bool}: ∀ {l:List (DE T)},pH q l=true-> ∀ e∈l,q e.x=true
 | [],_,e,he=>by cases he
 | x::r,h,e,he=>by
   simp only [pH]at h;split at h
   ·rename_i hv;rcases mem_cons.1 he with rfl | he
    ·exact hv
    ·exact Xz h e he
   ·cases h
def Af.ao9 (st:Af T) (id:Ah):Bool:=jF (fun v=> !(v.p_ id)) st.tm&&(pG (fun v=> !(v.p_ id)) st.gh&&pH (fun x=> !(x.p_ id)) st.so)
def Af.kill (st:Af T) (id:Ah):Option (Af T):=match CM id||Ep id with
 | true=>none
 | false=>match st.ao9 id with
   | true=>some {st with so:=st.so.filter fun e=> !(Bc e.id id)}
   | false=>some (let s:=st.adE (DV.p_ id) (fun _=> .u) (DX.p_ id) (Oi id);{s with so:=s.so.filter fun e=> !(Bc e.id id)})
theorem rD {id:Ah} {c:DC T} (h:c.ok):(Xx id c).ok :=by grind [Xx,DC.ok]
theorem m9 (id:Ah) (c:DC T):(Xx id c).toC =Io id c.toC:=by grind [Xx,Io,DC.agZ,DC.toC]
theorem Iv {α:Type} {F:α->α}: ∀ {l:List α},(∀ x∈l,F x=x)->l.map F=l
 | [],_=>rfl
 | a::l,h=>by rw [map_cons,h a (by simp),Iv (fun x hx=>h x (by simp [hx]))]
theorem uJ {F:V->V} {m:Nat} {tm:Tm T} (h: ∀ i,F (lk tm i).toV =(lk tm i).toV):(AE m tm).map F=AE m tm:=by refine Iv fun x hx=>?_;obtain⟨i,_,rfl⟩:=mem_map.1 hx;exact h i
theorem Aeq {F:V->V} {l:List (Nat×Tm T)} (h: ∀ x∈l, ∀ i,F (lk x.2 i).toV =(lk x.2 i).toV):(l.flatMap fun f=>AE f.1 f.2).map F=l.flatMap fun f=>AE f.1 f.2:=by refine Iv fun x hx=>?_;obtain⟨y,hy,hx⟩:=List.mem_flatMap.1 hx;obtain⟨i,_,rfl⟩:=mem_map.1 hx;grind
def JG:List V->List V->Prop
 | [],[]=>True
 | x::xs,y::ys=>(y= .undef \/y=x)/\JG xs ys
 | _,_=>False
theorem JG.refl: ∀ l:List V,JG l l
 | []=>trivial
 | x::xs=>⟨.inr rfl,JG.refl xs⟩
theorem JG.append: ∀ {a b c d:List V},JG a b->JG c d->JG (a++c) (b++d)
 | [],[],_,_,_,h=>h
 | [],_::_,_,_,h,_=>h.elim
 | _::_,[],_,_,h,_=>h.elim
 | _::_,_::_,_,_,h,k=>⟨h.1,h.2.append k⟩
theorem JG.get: ∀ {a b:List V},JG a b->b.length=a.length/\ ∀ i,b.getD i .undef = .undef \/b.getD i .undef =a.getD i .undef
 | [],[],_=>(by grind)
 | [],_::_,h=>h.elim
 | _::_,[],h=>h.elim
 | x::xs,y::ys,h=>by
   obtain⟨h1,h2⟩:=JG.get h.2;refine⟨by simp [h1],fun i=>?_⟩;cases i with
   | zero=>simpa using h.1
   | succ i=>simpa using h2 i
theorem JG.map {α:Type} {f g:α->V}: ∀ {l:List α},(∀ x∈l,g x= .undef \/g x=f x)->JG (l.map f) (l.map g)
 | [],_=>trivial
 | a::l,h=>⟨h a (by simp),JG.map fun x hx=>h x (by simp [hx])⟩
theorem JG.set: ∀ {a b:List V},JG a b-> ∀ (i:Nat) (v:V),JG (a.set i v) (b.set i v)
 | [],[],_,_,_=>trivial
 | [],_::_,h,_,_=>h.elim
 | _::_,[],h,_,_=>h.elim
 | _::_,_::_,h,0,v=>⟨.inr rfl,h.2⟩
 | _::_,_::_,h,i+1,v=>⟨h.1,h.2.set i v⟩
theorem JG.of {a b:List V} (hl:b.length=a.length) (h: ∀ i,b.getD i .undef = .undef \/b.getD i .undef =a.getD i .undef):JG a b:=by
 induction a generalizing b with
 | nil=>
   cases b with
   | nil=>trivial
   | cons y ys=>simp at hl
 | cons x xs ih=>
   cases b with
   | nil=>simp at hl
   | cons y ys=>exact⟨by simpa using h 0,ih (by grind) (fun i=>by simpa using h (i+1))⟩
theorem B8.put {a b:St} (h:B8 a b) (d:Option Nat) (v:V):B8 (a.put d v) (b.put d v):=by
 cases d with
 | none=>exact h
 | some d=>
   have:=((JG.of h.len h.tm).set d v).get;exact⟨this.1,this.2,h.so,h.nd,h.gh,h.pre⟩
theorem Ez {H:Ax T} {st:Af T} (h:AI H st) (p:DE T->Bool):AI H {st with so:=st.so.filter p}:=
 ⟨h.tm,h.gh,fun e he=>h.so e (by grind),List.Sublist.nodup (by grind [List.filter_sublist]) h.nd⟩
theorem XA (id:Ah) (hd:CM id=false) (l:List (DE T)):(l.filter fun e=> !(Bc e.id id)).map DE.toE=(l.map DE.toE).filter (fun e=>e.id != id&& !(CM id&&Ep e.id)):=by
 induction l with
 | nil=>rfl
 | cons e l ih=>
   simp only [List.filter_cons,map_cons,DE.toE_id,hd,Bool.false_and,Bool.not_false,Bool.and_true,CW]at ih ⊢;grind
theorem eY {id:Ah} {e:DE T} (h:e.x.p_ id=false):e.toE.fre id=true:=by grind [Au.fre,DE.toE,DX.p_,Oh]
theorem ne {id:Ah} {e:DE T} (t:Nat):(⟨e.id,t,Oi id e.x⟩:DE T).toE =Au.kill id e.toE:=by
 unfold DE.toE;cases hxx:e.x with
 | box cs=>
   simp only [Oi,Au.kill,CP,map_map,Au.mk.injEq,and_true,true_and];grind [map_congr_left,m9]
 | row E l=>rfl
 | deep E n l h=>rfl
theorem jG (id:Ah) (p:Ah->Bool->Bool) (l:List Au):(l.map (Au.kill id)).filter (fun e=>e.id != id&& !(CM id&&Ep e.id))=(l.filter (fun e=>e.id != id&& !(CM id&&Ep e.id))).map (Au.kill id):=by induction l<;>grind [Au.P_]
theorem jH {id:Ah} {m n:Nat} {tm:Tm T}:JG ((AE m tm).map (Es id)) (AE m (PA (DV.p_ id) (fun _=> .u) n tm)):=by unfold AE;rw [map_map];refine JG.map fun i _=>?_;simp only [Function.comp,MS (p:=DV.p_ id) (f:=fun _=>DV.u) (by simp [DV.p_])];grind [DV.toV,Rr,DV.agY]
theorem AaS {id:Ah}: ∀ (l:List (Nat×Tm T)) (n:Nat),JG ((l.flatMap fun f=>AE f.1 f.2).map (Es id)) ((Qo (DV.p_ id) (fun _=> .u) n l).flatMap fun f=>AE f.1 f.2)
 | [],_=>trivial
 | (m,tm)::r,n=>by simp only [Qo,flatMap_cons,map_append];exact jH.append (AaS r _)
theorem Af.alQ {H:Ax T} {st a_:Af T} {id:Ah} (h:AI H st) (hk:st.kill id=some a_):(∃ H',Nx H st H' a_)/\B8 (st.toSt.kill id) a_.toSt/\a_.toSt.so=(st.toSt.kill id).so /\CM id=false/\Ep id=false/\a_.pre=st.pre/\ ∀ e∈a_.so,e.id ≠ id:=by
 have nid: ∀ l:List (DE T), ∀ e∈l.filter (fun e=> !(Bc e.id id)),e.id ≠ id:=(by grind [AP]);unfold Af.kill at hk;split at hk
 ·cases hk
 ·rename_i hd;simp only [Bool.or_eq_false_iff]at hd;split at hk
  ·rename_i hn;injection hk with hk;subst hk;simp only [Af.ao9,and_eq_true]at hn;obtain⟨n1,n2,n3⟩:=hn;have k1: ∀ i,Es id (lk st.tm i).toV =(lk st.tm i).toV :=(by grind [Rr,DV.agY,Qq,DV.p_]);have k2: ∀ x∈st.gh, ∀ i,Es id (lk x.2 i).toV =(lk x.2 i).toV :=fun x hx i=>(by grind [Rr,DV.agY,Xy,DV.p_]);have e:(({st with so:=st.so.filter fun e=> !(Bc e.id id)}:Af T)).toSt =st.toSt.kill id:=by simp only [Af.toSt,St.kill,St.mk.injEq,and_true];refine⟨(uJ k1).symm,?_,(Aeq k2).symm⟩;rw [XA id hd.1];refine(Iv fun e he=>?_).symm;obtain⟨x,hx,rfl⟩:=mem_map.1 (mem_filter.1 he).1;grind [Xz,Au.adt,eY]
   exact⟨⟨H,Da.refl _ _,le_refl _,Ez h _⟩,e▸B8.refl _,by rw [e],hd.1,hd.2,rfl,nid _⟩
  ·injection hk with hk;subst hk;obtain⟨H',hN⟩:=Af.adW (p:=DV.p_ id) (f:=fun _=> .u) (q:=DX.p_ id) (g:=Oi id) h (fun _=>by simp only [DV.ok]) (fun {x} hx=>by
    cases x with
    | box cs=>
      simp only [Oi,DX.ok]at hx ⊢;refine De.2 fun c hc=>?_;obtain⟨d,h1,rfl⟩:=mem_map.1 hc;grind [rD,De]
    | row E l=>exact hx
    | deep E n l h=>exact hx)
   have hso:(((Qp (DX.p_ id) (Oi id) (st.nx+st.tm.length+Nv st.gh) st.so).filter fun e=> !(Bc e.id id)).map DE.toE)=(st.toSt.kill id).so :=by rw [XA id hd.1,Og (F:=Au.kill id) _ (fun e _=>⟨fun _ t=>ne t,fun hm=>Au.adt (eY hm)⟩)];exact jG id (fun _ _=>true) _
   refine⟨⟨H',hN.ext,hN.le,Ez hN.ok _⟩,?_,hso,hd.1,hd.2,rfl,nid _⟩;have a:=(jH (id:=id) (m:=st.m) (n:=st.nx) (tm:=st.tm)).get;have b:=(AaS (id:=id) st.gh (st.nx+st.tm.length)).get;exact⟨a.1,a.2,fun e he=>by rw [<-hso];exact he,fun hn=>by have:(Af.toSt {(st.adE (DV.p_ id) (fun _=> .u) (DX.p_ id) (Oi id))with so:=(st.adE (DV.p_ id) (fun _=> .u) (DX.p_ id) (Oi id)).so.filter fun e=> !(Bc e.id id)}).so =(st.toSt.kill id).so :=hso;grind,b,rfl⟩
def Af.new (st:Af T) (id:Ah) (x:DX T):Option (Af T):=match st.kill id,x.p_ id with
 | some s,false=>some {s with so:=⟨id,s.nx,x⟩::s.so,nx:=s.nx+1}
 | _,_=>none
theorem Af.aca {H:Ax T} {st a_:Af T} {id:Ah} {x:DX T} (h:AI H st) (hx:x.ok) (hk:st.new id x=some a_):(∃ H',Nx H st H' a_)/\B8 (st.toSt.new (⟨id,0,x⟩:DE T).toE) a_.toSt/\a_.pre=st.pre:=by
 unfold Af.new at hk;split at hk
 ·rename_i s hs hm;injection hk with hk;subst hk;obtain⟨⟨H',hN⟩,h2,h2',h3,h4,h5,h6⟩:=Af.alQ h hs;have he:=Da.Tp H' s.nx ⟨id,s.nx,x⟩;refine⟨⟨H'.Tp s.nx ⟨id,s.nx,x⟩,hN.trans ⟨he,le_succ _,?_,?_,?_,?_⟩⟩,?_,h5⟩
  ·exact B3 he (le_succ _) hN.ok.tm
  ·exact fun f hf=>B3 he (le_succ _) (hN.ok.gh f hf)
  ·intro e hm';rcases mem_cons.1 hm' with rfl | hm'
   ·simp_all [Ax.Tp]
   ·exact FG he (le_succ _) hN.ok.so e hm'
  ·rw [map_cons];refine nodup_cons.2 ⟨fun hm'=>?_,hN.ok.nd⟩;grind
  ·have e1:(⟨id,0,x⟩:DE T).toE.id =id:=DE.toE_id _;have e2:(⟨id,s.nx,x⟩:DE T).toE =(⟨id,0,x⟩:DE T).toE :=rfl;have e3:Au.kill id (⟨id,0,x⟩:DE T).toE =(⟨id,0,x⟩:DE T).toE :=Au.adt (eY hm);have e5:(st.toSt.new (⟨id,0,x⟩:DE T).toE).so =(⟨id,0,x⟩:DE T).toE ::s.toSt.so:=by grind [St.new,Ra]
   have e6:(Af.toSt {s with so:=⟨id,s.nx,x⟩::s.so,nx:=s.nx+1}).so =(⟨id,0,x⟩:DE T).toE ::s.toSt.so:=rfl;have hl:=h2;rw [show (st.toSt.kill id)=st.toSt.kill (⟨id,0,x⟩:DE T).toE.id by rw [e1]]at hl;exact⟨hl.len,hl.tm,(by grind),(by grind),hl.gh,by show s.pre=st.pre;exact h5⟩
 ·cases hk
end Go.PL
namespace Go.PL
open Go Go.RowKit
variable {T:Bm}
def Nw (id:Ah) (E:Nat) (l:List (T.den E)) (c:DC T):DC T:=match c.p_ id with
 | false=>c
 | true=>match c with
   | .c (.j_ _)=> .k (.t_ E) l
   | _=> .c .any
mutual
def EA (id:Ah) (E:Nat) (l:List (T.den E)):DV T->DV T
 | .c x=> .c (Nw id E l x)
 | .agg cs=> .agg (cs.map (Nw id E l))
 | .tup vs=> .tup (Km id E l vs)
 | .g k v=> .g k (EA id E l v)
 | .u => .u
def Km (id:Ah) (E:Nat) (l:List (T.den E)):List (DV T)->List (DV T)
 | []=>[]
 | v::vs=>EA id E l v::Km id E l vs
end
def cK (id:Ah) (E:Nat) (l:List (T.den E)):DX T->DX T
 | .box cs=> .box (cs.map (Nw id E l))
 | x=>x
def Af.frz (st:Af T) (id:Ah):Option (Af T):=match DN st id with
 | some ⟨E,l⟩=>some (let s:=st.adE (DV.p_ id) (EA id E l) (DX.p_ id) (cK id E l);{s with so:=s.so.filter fun e=> !(Bc e.id id)})
 | none=>none
section
variable {id:Ah} {E:Nat} {l:List (T.den E)}
theorem cL (c:DC T):(Nw id E l c).toC =KN id l.length (l.flatMap (T.enc E)) c.toC:=by
 unfold Nw;cases hm:c.p_ id with
 | false=>
   rw [DC.agZ]at hm;simp only;cases hc:c.toC<;>rw [hc]at hm<;>simp only [C.p_,beq_eq_false_iff_ne,ne_eq]at hm<;>simp only [KN]<;>first
    | grind
    | grind
    | rfl
 | true=>
   have hm':=hm;rw [DC.agZ]at hm';simp only;split
   ·simp_all [DC.p_,yh,AP,DC.toC,Bk,KN]
   ·rename_i Tg;have: ∀ i,c.toC ≠ .j_ i:=fun i he=>by
     cases c with
     | c x=>simp only [DC.toC]at he;simp_all
     | k kd x=>cases kd<;>simp [DC.toC,Bk]at he
     | ip=>simp [DC.toC]at he
     | rp=>simp [DC.toC]at he
     | ap=>simp [DC.toC]at he
     | bs=>simp [DC.toC]at he
     | clo b f cs=>cases b<;>simp [DC.toC]at he
    cases hc:c.toC<;>rw [hc]at hm' this<;>simp only [C.p_,beq_iff_eq,Bool.false_eq_true]at hm'<;>simp only [KN,DC.toC]<;>first
     | grind
     | grind
theorem XB {c:DC T} (h:c.ok):(Nw id E l c).ok :=by unfold Nw;grind [DC.ok]
theorem XC (cs:List (DC T)):Av (cs.map (Nw id E l))=(Av cs).map (KN id l.length (l.flatMap (T.enc E))):=by grind [CP,map_congr_left,cL]
mutual
theorem S8: ∀ v:DV T,(EA id E l v).toV =L4 id l.length (l.flatMap (T.enc E)) v.toV
 | .c x=>by simp only [EA,DV.toV,L4,cL]
 | .agg cs=>by simp only [EA,DV.toV,L4,XC]
 | .tup vs=>by simp only [EA,DV.toV,L4,XD vs]
 | .g k v=>by simp only [EA,DV.toV,L4,S8 v]
 | .u =>by simp only [EA,DV.toV,L4]
theorem XD: ∀ vs:List (DV T),Be (Km id E l vs)=Nu id l.length (l.flatMap (T.enc E)) (Be vs)
 | []=>by simp only [Km,Be,Nu]
 | v::vs=>by simp only [Km,Be,Nu,S8 v,XD vs]
end
theorem XE: ∀ {cs:List (DC T)},RB id cs=false->cs.map (Nw id E l)=cs
 | [],_=>rfl
 | c::cs,h=>by
   simp only [RB]at h;split at h
   ·cases h
   ·rename_i hc;have:Nw id E l c=c:=by unfold Nw;simp only [hc]
    rw [map_cons,XE h,this]
mutual
theorem XF: ∀ v:DV T,v.p_ id=false->EA id E l v=v
 | .c x,h=>by simp_all [DV.p_,EA,Nw]
 | .agg cs,h=>by grind [DV.p_,EA,XE]
 | .tup vs,h=>by simp only [DV.p_]at h;simp only [EA,cM vs h]
 | .g k v,h=>by simp only [DV.p_]at h;simp only [EA,XF v h]
 | .u,_=>by simp only [EA]
theorem cM: ∀ vs:List (DV T),cJ id vs=false->Km id E l vs=vs
 | [],_=>by simp only [Km]
 | v::vs,h=>by
   simp only [cJ]at h;split at h
   ·cases h
   ·rename_i hv;simp only [Km,XF v hv,cM vs h]
end
theorem RC {f:DC T->DC T} (hf: ∀ c,c.ok->(f c).ok) {cs:List (DC T)} (h:Cl cs):Cl (cs.map f):=De.2 fun c hc=>by obtain⟨d,h1,rfl⟩:=mem_map.1 hc;grind [De]
mutual
theorem XG {H:Ax T} {n:Nat}: ∀ {v:DV T},v.ok H n->(EA id E l v).ok H n
 | .c x,h=>by grind [DV.ok,EA,XB]
 | .agg cs,h=>by grind [DV.ok,EA,RC,XB]
 | .tup vs,h=>by simp only [DV.ok,EA]at h ⊢;exact cN h
 | .g k v,h=>by simp only [DV.ok,EA]at h ⊢;exact⟨h.1,fun q=>XG (h.2 q)⟩
 | .u,_=>by simp only [DV.ok,EA]
theorem cN {H:Ax T} {n:Nat}: ∀ {vs:List (DV T)},CZ H n vs->CZ H n (Km id E l vs)
 | [],_=>by simp only [CZ,Km]
 | v::vs,h=>by simp only [CZ,Km]at h ⊢;exact⟨XG h.1,cN h.2⟩
end
theorem cO {e:DE T} (t:Nat):(⟨e.id,t,cK id E l e.x⟩:DE T).toE =Au.frz id l.length (l.flatMap (T.enc E)) e.toE:=by grind [DE.toE,cK,Au.frz,XC]
theorem uK {e:DE T} (h:e.x.p_ id=false):Au.frz id l.length (l.flatMap (T.enc E)) e.toE=e.toE:=by rw [<-cO e.tag];grind [DX.p_,cK,XE,DE.toE]
theorem nf (id:Ah) (n:Nat) (cs:List C) (l:List Au):(l.map (Au.frz id n cs)).filter (fun e=>e.id != id)=(l.filter (fun e=>e.id != id)).map (Au.frz id n cs):=by induction l<;>grind [Au.aiQ]
theorem agh (id:Ah) (l:List (DE T)):(l.filter fun e=> !(Bc e.id id)).map DE.toE=(l.map DE.toE).filter (fun e=>e.id != id):=by induction l<;>grind [DE.toE_id,CW]
end
theorem Af.afB {H:Ax T} {st a_:Af T} {id:Ah} (h:AI H st) (hk:st.frz id=some a_):(∃ H',Nx H st H' a_)/\a_.toSt=st.toSt.freeze id/\st.toSt.ab9 id=true/\a_.pre=st.pre:=by
 unfold Af.frz at hk;split at hk
 ·rename_i E l hr;injection hk with hk;subst hk;obtain⟨hl,_,_⟩:=BQ hr;obtain⟨H',hN⟩:=Af.adW (p:=DV.p_ id) (f:=EA id E l) (q:=DX.p_ id) (g:=cK id E l) h XG (fun {x} hx=>by cases x<;>grind [cK,DX.ok,RC,XB])
  refine⟨⟨H',hN.ext,hN.le,Ez hN.ok _⟩,?_,by simp only [St.ab9,hl],rfl⟩;have F1: ∀ tm:Tm T, ∀ i,(DV.p_ id (lk tm i)=true->(EA id E l (lk tm i)).toV =L4 id l.length (l.flatMap (T.enc E)) (lk tm i).toV)/\(DV.p_ id (lk tm i)=false->L4 id l.length (l.flatMap (T.enc E)) (lk tm i).toV =(lk tm i).toV):=fun tm i=>
   (by grind [S8,XF])
  have fm: ∀ l':List V,Nu id l.length (l.flatMap (T.enc E)) l'=l'.map (L4 id l.length (l.flatMap (T.enc E))):=by intro l';induction l'<;>grind [Nu]
  unfold St.freeze;rw [hl];simp only [Bool.not_true,Bool.false_eq_true,if_false,Af.toSt,Af.adE,St.mk.injEq,and_true,fm];refine⟨(by grind [jC,DV.p_]),?_,(by grind [jD,DV.p_])⟩;rw [agh,Og (F:=Au.frz id l.length (l.flatMap (T.enc E))) _ (fun e _=>⟨fun _ t=>cO t,fun hm=>uK hm⟩)];exact nf _ _ _ _
 ·cases hk
def S9 (id:Ah) (t:Nat) (x:DX T):List (DE T)->List (DE T)
 | []=>[]
 | e::r=>match Bc e.id id with
   | true=>⟨e.id,t,x⟩::r
   | false=>e::S9 id t x r
def Af.abe (st:Af T) (id:Ah) (x:DX T):Af T:={st with so:=S9 id st.nx x st.so,nx:=st.nx+1}
theorem XH (id:Ah) (t:Nat) (x:DX T): ∀ l:List (DE T),(S9 id t x l).map DE.id=l.map DE.id
 | []=>rfl
 | e::r=>by unfold S9;split<;>simp [XH id t x r]
theorem XI {id:Ah} {t:Nat} {x:DX T} {F:Au->Au} (hF: ∀ a:Au,a.id ≠ id->F a=a): ∀ {l:List (DE T)} {e:DE T},(l.map DE.id).Nodup ->e∈l->e.id=id->F e.toE=(⟨id,t,x⟩:DE T).toE ->(l.map DE.toE).map F=(S9 id t x l).map DE.toE
 | [],_,_,h,_,_=>by cases h
 | a::r,e,hn,hm,he,hf=>by
   rw [map_cons]at hn;obtain⟨n1,n2⟩:=nodup_cons.1 hn;unfold S9;split
   ·rename_i hb;have hb:=AP.1 hb;have hae:a=e:=by grind
    subst hae;simp only [map_cons,hf];rw [<-hb];congr 1;refine Iv fun y hy=>?_;obtain⟨z,hz,rfl⟩:=mem_map.1 hy;grind [DE.toE_id]
   ·rename_i hb;have Tg:a.id ≠ id:=fun q=>by rw [AP.2 q]at hb;cases hb
    have hm':e∈r:=by
     rcases mem_cons.1 hm with q | q
     ·subst q;exact absurd he Tg
     ·exact q
    simp only [map_cons,XI hF n2 hm' he hf];rw [hF _ (by rw [DE.toE_id];exact Tg)]
theorem Af.aa8 {H:Ax T} {st:Af T} (h:AI H st) (id:Ah) {x:DX T} (hx:x.ok): ∃ H',Nx H st H' (st.abe id x):=by
 by_cases hid: ∃ e∈st.so,e.id=id
 ·obtain⟨e0,_,he0⟩:=hid;have he:=Da.Tp H st.nx ⟨id,st.nx,x⟩;refine⟨H.Tp st.nx ⟨id,st.nx,x⟩,he,le_succ _,B3 he (le_succ _) h.tm,fun f hf=>B3 he (le_succ _) (h.gh f hf),?_,by simp only [Af.abe,XH];exact h.nd⟩;have key: ∀ l:List (DE T),(∀ e∈l,e.tag<st.nx/\H.e e.tag=e/\e.x.ok)-> ∀ e∈S9 id st.nx x l,e.tag<st.nx+1/\(H.Tp st.nx ⟨id,st.nx,x⟩).e e.tag=e/\e.x.ok:=by
   intro l;induction l with
   | nil=>intro _ e hm;cases hm
   | cons a r ih=>
     intro hl e hm;unfold S9 at hm;split at hm
     ·rename_i hb;have hb:=AP.1 hb;rcases mem_cons.1 hm with rfl | hm
      ·simp_all [Ax.Tp]
      ·exact FG he (le_succ _) hl e (by simp [hm])
     ·rcases mem_cons.1 hm with rfl | hm
      ·exact FG he (le_succ _) hl e (by simp)
      simp_all
  exact key st.so h.so
 ·have: ∀ l:List (DE T),(∀ e∈l,e.id ≠ id)->S9 id st.nx x l=l:=by intro l;induction l<;>grind [S9,AP]
  have hs:S9 id st.nx x st.so=st.so:=(by grind);exact⟨H,Da.refl _ _,le_succ _,B3 (Da.refl _ _) (le_succ _) h.tm,fun f hf=>B3 (Da.refl _ _) (le_succ _) (h.gh f hf),by simp only [Af.abe,hs];exact FG (Da.refl _ _) (le_succ _) h.so,by simp only [Af.abe,hs];exact h.nd⟩
theorem Af.aep {H:Ax T} {st:Af T} (h:AI H st) {id:Ah} {x:DX T} {e:DE T} (hm:e∈st.so) (he:e.id=id) {cs:List C} {q:Bool} (hx:(⟨id,e.toE.row,cs,e.toE.pu&&q⟩:Au)=(⟨id,st.nx,x⟩:DE T).toE):(st.abe id x).toSt =st.toSt.acY id cs q:=by have:=XI (t:=st.nx) (x:=x) (F:=fun e=>if e.id==id then⟨e.id,e.row,cs,e.pu&&q⟩else e) (by grind) h.nd hm he (by grind [DE.toE_id]);simp_all [Af.toSt,Af.abe,St.acY]
end Go.PL
namespace Go.PL
open Go Go.RowKit
variable {T:Bm}
def jI:Operand->DV T->DV T
 | .const (.slice none 0 0),_=> .c (.c .L_)
 | _,v=>v
def ng:DV T->DV T
 | .c (.c .L_)=> .c (.c (.sl 0 []))
 | v=>v
def U5 {α:Type} (i:Nat) (x:α):Nat->List α->List α
 | _,[]=>[]
 | j,a::r=>(if i=j then x else a)::U5 i x (j+1) r
theorem jJ {α:Type} {i:Nat} {x:α}: ∀ (l:List α) (j:Nat),j<=i->U5 i x j l=l.set (i - j) x
 | [],_,_=>rfl
 | a::r,j,h=>by
   unfold U5;by_cases hj:i=j
   ·subst hj;simp only [if_true,Nat.sub_self,List.set_cons_zero,List.cons.injEq,true_and];have: ∀ (r:List α) (k:Nat),i<k->U5 i x k r=r:=by
     intro r;induction r with
     | nil=>intro _ _;rfl
     | cons b r ih=>intro k hk;rw [U5,if_neg (by omega),ih _ (by omega)]
    grind
   ·rw [if_neg hj,jJ r (j+1) (by omega),show i - j=(i - (j+1))+1 by omega,List.set_cons_succ]
def Oj (E:Nat):List (T.den E)->List (DC T)
 | []=>[]
 | x::l=>eW E x++Oj E l
theorem U6 (E:Nat): ∀ l:List (T.den E),Av (Oj E l)=l.flatMap (T.enc E)
 | []=>by simp [Oj,Av]
 | x::l=>by rw [Oj,CT,GO,U6 E l,flatMap_cons]
theorem cP (E:Nat): ∀ l:List (T.den E),Cl (Oj E l)
 | []=>by simp [Oj,Cl]
 | x::l=>Df (MR E x) (cP E l)
def yj (E:Nat) (x:T.den E) (off:Nat) (cs:List (DC T)):Option (T.den E):=match Nat.ble (off+cs.length) (T.sz E)with
 | true=>tp false E ((eW E x).take off++(cs++(eW E x).drop (off+cs.length)))
 | false=>none
def nh (P:Program) (t:TypeId) (d:Option Nat) (st:Af T) (p v:DV T):M (Af T):=
 match KS P t with
 | none=> .no
 | some (_,n)=>match p with
   | .c (.c (.ptr id off))=>match K6 st id,v.cells with
     | some ds,some cs=>Tf (Nat.beq cs.length n&&Nat.ble (off+n) ds.length) (.ret ((st.abe id (.box (ds.take off++(cs++ds.drop (off+n))))).put d .u))
     | _,_=> .no
   | .c (.rp id N i off)=>match DN st id,(ng v).cells with
     | some ⟨E,l⟩,some cs=>Tf (Nat.beq N (T.sz E)&&Nat.beq cs.length n) (.opt (idx l i) fun x=>match yj E x off cs with
       | some x'=> .ret ((st.abe id (.row E (l.set i.toNat x'))).put d .u)
       | none=> .no)
     | _,_=> .no
   | .c (.ap id base m E i off)=>match K6 st id,v.cells with
     | some ds,some cs=>match LF E m (ds.drop base)with
       | some l=>Tf (Nat.beq cs.length n&&Nat.ble (base+m*T.sz E) ds.length) (.opt (idx l i) fun x=>match yj E x off cs with
         | some x'=> .ret ((st.abe id (.box (ds.take base++(Oj E (U5 i.toNat x' 0 l)++ds.drop (base+m*T.sz E))))).put d .u)
         | none=> .no)
       | none=> .no
     | _,_=> .no
   | _=> .no
def Kn (st:Af T) (d:Nat) (x:DX T) (v:Ah->DC T):M (Af T):=match st.new (d::st.pre) x with
 | some s=> .ret (s.put (some d) (.c (v (d::st.pre))))
 | none=> .no
def Qr (P:Program) (t:TypeId):Option (List (DC T)):=
 match P.info? t with
 | some i=>match i.zero with
   | some z=>Kh z.cells.toList
   | none=>none
 | none=>none
def XJ:DC T->DC T
 | .c .L_ => .c (.sl 0 [])
 | c=>c
def TA:DV T->DV T
 | .c x=> .c (XJ x)
 | .agg cs=> .agg (cs.map XJ)
 | v=>v
def Ol (P:Program) (st:Af T) (d:Nat) (t:TypeId) (len:Nat) (ps:List (Nat×Operand)):M (Af T):=
 match DR P t,HB st [] ps with
 | some (E,n,_),some vs=>match Qr P E with
   | some z=>match U4 (fun i=>some (i*n,n)) ((List.replicate len z).flatMap id) (vs.map fun x=>(x.1,TA x.2))with
     | some cs=>match LF E len cs with
       | some l=>Tf (Nat.beq n (T.sz E)&&(Nat.beq z.length n&&(Nat.blt 0 n&&(Nat.ble (len*n) (2 ^ 24)&&Nat.beq cs.length (len*n))))) (Kn st d (.row E l) fun i=> .c (.j_ i))
       | none=> .no
     | none=> .no
   | none=> .no
 | _,_=> .no
def Qs (P:Program) (st:Af T) (d:Nat) (t:TypeId) (l c:Int):M (Af T):=
 match DR P t with
 | some (E,n,by')=>match Qr P E with
   | some z=>match tp false E z with
     | some x=>Tf (Nat.beq n (T.sz E)&&(Nat.beq z.length n&&Nat.blt 0 n)) (.opt (n_ (0<=l/\l<=c/\c*by'<=140737488355328/\c<=maxLen)) fun _=>Kn st d (.row E (List.replicate l.toNat x)) fun i=> .c (.j_ i))
     | none=> .no
   | none=> .no
 | none=> .no
def K7:DC T->Option Ah
 | .c (.j_ id)=>some id
 | _=>none
theorem EB {c:DC T} {id:Ah} (h:K7 c=some id):c= .c (.j_ id):=by unfold K7 at h;grind
def AbX (st:Af T) (E:Nat):DV T->Option (List (T.den E))
 | .c x=>match K7 x with
   | some id=>match DN st id with
     | some ⟨E',l⟩=>Iq false (.t_ E) (.k (.t_ E') l)
     | none=>none
   | none=>Iq false (.t_ E) x
 | _=>none
def eZ (P:Program) (st:Af T) (d:Nat) (t:TypeId) (u x:DV T):M (Af T):=
 match u,DR P t with
 | .c (.c (.j_ id)),some (E',n,by')=>match DN st id with
   | some ⟨E,l⟩=>match AbX st E x with
     | some m=>Tf (Nat.beq E' E&&(Nat.beq n (T.sz E)&&Nat.blt 0 n)) (.opt (app by' l m) fun r=>match st.new id (.row E r)with
       | some s=> .ret (s.put (some d) (.c (.c (.j_ id))))
       | none=> .no)
     | none=> .no
   | none=> .no
 | _,_=> .no
def rE (P:Program) (st:Af T) (o:Oper):M (Af T):=
 match o.op with
 | .store t x y=>match st.arg [] x,st.arg [] y with
   | some p,some v=>nh P t o.dst st p (jI y v)
   | _,_=> .no
 | op=>match o.dst with
   | none=> .no
   | some d=>match op with
     | .alloc t=>match Xw P t with
       | some cs=>Kn st d (.box cs) fun i=> .c (.ptr i 0)
       | none=> .no
     | .box _ x=>match st.arg [] x with
       | some v=>match v.cells with
         | some cs=>Kn st d (.box cs) fun i=> .c (.ptr i 0)
         | none=> .no
       | none=> .no
     | .assign (.const (.slice none 0 0))=>match Dt P o.type with
       | some (E,n)=>Tf (Nat.beq n (T.sz E)) (Kn st d (.row E []) fun i=> .c (.j_ i))
       | none=> .no
     | .buildSlice t len ps=>Ol P st d t len ps.toList
     | .makeSlice t l c=>match st.arg [] l,st.arg [] c with
       | some (.c (.k (.int _) l)),some (.c (.k (.int _) c))=>Qs P st d t l c
       | _,_=> .no
     | .call c=>match c.callee,c.args.toList,c.argTypes.toList with
       | .builtin .append,[u,x],[t,t']=>match st.arg [] u,st.arg [] x with
         | some a,some b=>Tf (Nat.beq t t') (eZ P st d t a b)
         | _,_=> .no
       | _,_,_=> .no
     | _=> .no
def Ef (H:Ax T) (P:Program) (st:Af T) (o:Oper) (a_:Af T):Prop:=
 (∃ H',Nx H st H' a_)/\(ef P st.toSt o).1/\B8 (ef P st.toSt o).2 a_.toSt/\a_.pre=st.pre
section
variable {H:Ax T} {P:Program} {st:Af T}
theorem Af.H_ {H:Ax T} {st s:Af T} {H1:Ax T} (h:Nx H st H1 s) (d:Option Nat) {v:DV T} (hv:v.ok H1 s.nx): ∃ H',Nx H st H' (s.put d v):=by obtain⟨H2,h2⟩:=Af.aai h.ok d hv;exact⟨H2,h.trans h2⟩
theorem AU (s:Af T) (d:Option Nat) (v:DV T):(s.put d v).pre =s.pre:=by cases d<;>rfl
theorem Iw {d:Nat} {x:DX T} {v:Ah->DC T} (hw:AI H st) (hx:x.ok) (hv: ∀ i,(v i).ok):
 Yl (Kn st d x v) (fun a_=>(∃ H',Nx H st H' a_)/\B8 ((st.toSt.new (⟨d::st.pre,0,x⟩:DE T).toE).put (some d) (.c (v (d::st.pre)).toC)) a_.toSt/\a_.pre=st.pre):=by
 unfold Kn;split
 ·rename_i s hs;obtain⟨⟨H',hN⟩,h2,h3⟩:=Af.aca hw hx hs;refine Yl.ret ⟨Af.H_ hN _ (by grind [DV.ok]),?_,by rw [AU];exact h3⟩;rw [Af.k_];exact h2.put _ _
 ·exact Yl.no
theorem jK {v:DV T} {id:Ah} {off:Nat} {e:Au} (he:st.toSt.look id=some e) (hr:e.row.isSome=true):VJ st.toSt (.c (.ptr id off)) v.toV=(ng v).toV :=by
 unfold ng;split
 ·grind [DV.toV,DC.toC,VJ]
 ·rename_i Tg;unfold VJ;split
  ·rename_i hv;exfalso;cases v with
   | c x=>
     cases x with
     | c y=>
       simp only [DV.toV,DC.toC,V.c.injEq]at hv;grind
     | k kd x=>cases kd<;>simp [DV.toV,DC.toC,Bk]at hv
     | clo b f cs=>cases b<;>simp [DV.toV,DC.toC]at hv
     | _=>simp [DV.toV,DC.toC]at hv
   | _=>simp [DV.toV]at hv
  ·rfl
theorem jL {v:V} {id:Ah} {off:Nat} {e:Au} (he:st.toSt.look id=some e) (hr:e.row=none):VJ st.toSt (.c (.ptr id off)) v=v:=by grind [VJ]
theorem cQ {E:Nat} {x x':T.den E} {off:Nat} {cs:List (DC T)} (h:yj E x off cs=some x'):off+cs.length<=T.sz E/\(T.enc E x).take off++(Av cs++(T.enc E x).drop (off+(Av cs).length))=T.enc E x':=by
 unfold yj at h;split at h
 ·rename_i hb;refine⟨by simp_all,?_⟩;rw [<-(Ir h).2 rfl,CT,CT,JE,Gv,GO,AO]
 ·cases h
theorem ni {l:List C} {a b c:List C} (h:a++(b++c)=l) (hl:Am l=true):Am b=true:=by subst h;simp_all [BZ]
theorem rF (hw:AI H st) {t:TypeId} {d:Option Nat} {p v:DV T} (hv:v.ok H st.nx):
 Yl (nh P t d st p v) (fun a_=>(∃ H',Nx H st H' a_)/\(Hs P st.toSt t p.toV (VJ st.toSt p.toV v.toV)).1/\(Hs P st.toSt t p.toV (VJ st.toSt p.toV v.toV)).2.put d .undef =a_.toSt/\a_.pre=st.pre):=by
 unfold nh;split
 ·exact Yl.no
 ·rename_i ag n ht;split
  ·rename_i id off;split
   ·rename_i ds cs hb hc;refine Yl.Tf fun hg=>Yl.ret ?_;simp only [and_eq_true,beq_eq,ble_eq]at hg;obtain⟨hl,_,e,h1,h2,h3⟩:=Hz hb;obtain⟨c1,c2⟩:=DV.acQ hc;have hds:=Rx hw hb;have hok:(DX.box (ds.take off++(cs++ds.drop (off+n)))).ok :=Df (S3 hds _) (Df (c2 hv) (S4 hds _));obtain⟨H1,hN⟩:=Af.aa8 hw id hok;refine⟨Af.H_ hN _ (by simp only [DV.ok]),?_⟩;simp only [DV.toV,DC.toC];rw [jL hl rfl];simp only [Hs,c1,ht,hl];refine⟨(by grind [AO]),?_,by rw [AU];rfl⟩;rw [Af.k_,Af.aep hw h1 h2 (cs:=(Av ds).take off++Av cs++(Av ds).drop (off+(Av cs).length)) (q:=Am (Av cs))]
    ·simp only [DV.toV]
    ·rw [DE.toE_box h3];simp only [DE.toE,Au.mk.injEq,Bool.false_and,and_true,true_and];grind [CT,JE,Gv,AO]
   ·exact Yl.no
  ·rename_i id N i off;split
   ·rename_i E l cs hr hc;refine Yl.Tf fun hg=>Yl.opt fun x hx=>?_;simp only [and_eq_true,beq_eq]at hg;obtain⟨hN,hcs⟩:=hg;subst hN;split
    ·rename_i x' hp;obtain⟨p1,p2⟩:=cQ hp;obtain⟨hl,_,e,h1,h2,h3⟩:=BQ hr;obtain⟨c1,c2⟩:=DV.acQ hc;obtain⟨s1,s2⟩:=tX (l:=l) (l':=l.set i.toNat x') (i:=i) (x:=x) (x':=x') (e:=T.enc E) (N:=T.sz E) (o:=off) (base:=0) (cs:=Av cs) (pre:=[]) (post:=[]) (off:=i.toNat*T.sz E+off) (c0:=l.flatMap (T.enc E)) (c1:=(l.set i.toNat x').flatMap (T.enc E)) (by simp) rfl (by simp) rfl hx (fun y=>AS E y) (by omega) (by rw [AO];exact p1) p2;obtain⟨H1,hN⟩:=Af.aa8 hw id (x:= .row E (l.set i.toNat x')) trivial;refine Yl.ret ⟨Af.H_ hN _ (by simp only [DV.ok]),?_⟩;simp only [DV.toV,DC.toC];rw [jK hl rfl];simp only [Hs,c1,ht,hl];refine⟨(by grind [AO]),?_,by rw [AU];rfl⟩;rw [s2,Af.k_,Af.aep hw h1 h2 (cs:=(l.set i.toNat x').flatMap (T.enc E)) (q:=Am (Av cs))]
     ·simp only [DV.toV]
     grind [ni,Xo,DE.toE]
    ·exact Yl.no
   ·exact Yl.no
  ·rename_i id base m E i off;split
   ·rename_i ds cs hb hc;split
    ·rename_i l hdr;refine Yl.Tf fun hg=>Yl.opt fun x hx=>?_;simp only [and_eq_true,beq_eq,ble_eq]at hg;split
     ·rename_i x' hp;obtain⟨p1,p2⟩:=cQ hp;obtain⟨hl,_,e,h1,h2,h3⟩:=Hz hb;obtain⟨c1,c2⟩:=DV.acQ hc;obtain⟨hlen,r,hr⟩:=Ex hdr;rw [Gv]at hr;have hfl:(l.flatMap (T.enc E)).length =m*T.sz E:=by grind [BO,AS]
      have aAU:r=(Av ds).drop (base+m*T.sz E):=by grind [List.drop_drop,List.drop_left]
      have hs:U5 i.toNat x' 0 l=l.set i.toNat x':=by simp_all [jJ]
      have hle:base<=(Av ds).length :=by rw [AO];omega
      obtain⟨s1,s2⟩:=tX (l:=l) (l':=l.set i.toNat x') (i:=i) (x:=x) (x':=x') (e:=T.enc E) (N:=T.sz E) (o:=off) (base:=base) (cs:=Av cs) (pre:=(Av ds).take base) (post:=r) (off:=base+i.toNat*T.sz E+off) (c0:=Av ds) (c1:=(Av ds).take base++((l.set i.toNat x').flatMap (T.enc E)++r))
       (by grind [take_append_drop]) (by grind) rfl rfl hx (fun y=>AS E y) (by omega) (by rw [AO];exact p1) p2
      have hds:=Rx hw hb;have hok:(DX.box (ds.take base++(Oj E (U5 i.toNat x' 0 l)++ds.drop (base+m*T.sz E)))).ok :=Df (S3 hds _) (Df (cP _ _) (S4 hds _));obtain⟨H1,hN⟩:=Af.aa8 hw id hok;refine Yl.ret ⟨Af.H_ hN _ (by simp only [DV.ok]),?_⟩;simp only [DV.toV,DC.toC];rw [jL hl rfl];simp only [Hs,c1,ht,hl];refine⟨(by grind [AO]),?_,by rw [AU];rfl⟩;rw [s2,Af.k_,Af.aep hw h1 h2 (cs:=(Av ds).take base++((l.set i.toNat x').flatMap (T.enc E)++r)) (q:=Am (Av cs))]
      ·simp only [DV.toV]
      ·rw [DE.toE_box h3];simp only [DE.toE,Au.mk.injEq,Bool.false_and,and_true,true_and];grind [CT,JE,Gv,U6]
     ·exact Yl.no
    ·exact Yl.no
   ·exact Yl.no
  ·exact Yl.no
end
end Go.PL
namespace Go.PL
open Go Go.RowKit
variable {T:Bm}
section
variable {H:Ax T} {P:Program} {st:Af T}
theorem HC (hw:AI H st) {x:Operand} {v:DV T} (h:st.arg [] x=some v):v.ok H st.nx/\(st.toSt.arg true x).1/\(st.toSt.arg true x).2=v.toV:=
 Af.ael (key:=[]) hw (fun _ hl=>by cases hl) h rfl
theorem Ix {t:TypeId} {cs:List (DC T)} (h:Qr P t=some cs):Nt P t=some (Av cs)/\Cl cs:=by grind [Qr,Nt,Od]
theorem RE {α:Type} (f:α->List (DC T)): ∀ l:List α,Av (l.flatMap f)=l.flatMap (fun x=>Av (f x))
 | []=>by simp [Av]
 | a::l=>by rw [flatMap_cons,CT,RE f l,flatMap_cons]
theorem Qt (z:List (DC T)) (hz:0<z.length) (n:Nat):Av ((List.replicate n z).flatMap id)=B7 (Av z) n:=by rw [RE,cz (fun x:List (DC T)=>Av x) z rfl (by rw [AO];exact hz)];rfl
theorem XK (c:DC T):(XJ c).toC =Hj c.toC:=by
 unfold XJ;split
 ·rfl
 ·rename_i Tg;cases c with
  | c x=>
    cases x with
    | L_=>grind
    | _=>rfl
  | k kd x=>cases kd<;>rfl
  | clo b f cs=>cases b<;>simp [DC.toC,Hj]
  | _=>simp [DC.toC,Hj]
theorem nj (v:DV T):(TA v).toV =v.toV.ae6:=by cases v<;>simp_all [TA,DV.toV,V.ae6,XK,CP]
theorem XL (vs:List (Nat×DV T)):jz (vs.map fun x=>(x.1,TA x.2))=(jz vs).map Rb:=by simp_all [jz,Rb,nj]
theorem XM (hw:AI H st) {d:Nat} {t:TypeId} {len:Nat} {ps:List (Nat×Operand)}:
 Yl (Ol P st d t len ps) (fun a_=>(∃ H',Nx H st H' a_)/\(Bf P st.toSt d t len ps).1/\B8 (Bf P st.toSt d t len ps).2 a_.toSt/\a_.pre=st.pre):=by
 unfold Ol;split
 ·rename_i E n by' vs hs hp;split
  ·rename_i z hz;split
   ·rename_i cs hf;split
    ·rename_i l hl;refine Yl.Tf fun hg=>(Iw hw (x:= .row E l) (by exact trivial) (fun _=>by simp only [DC.ok])).mono fun a_ h=>?_;simp only [and_eq_true,beq_eq,blt_eq,ble_eq]at hg;obtain⟨g1,g2,g3,g4,g5⟩:=hg;subst g1;obtain⟨h1,h2,h3⟩:=h;obtain⟨p1,p2,p3⟩:=Gx (key:=[]) hw (fun _ hl=>by cases hl) rfl hp;obtain⟨z1,z2⟩:=Ix hz;obtain⟨f1,_⟩:=Kl hf;rw [Qt z (by omega),XL]at f1;obtain⟨hlen,r,hr⟩:=Ex hl;have hrn:r=[]:=by have:=congrArg List.length hr;grind [AO,BO,AS,List.length_eq_zero_iff]
     subst hrn;rw [List.append_nil]at hr;refine⟨h1,?_⟩;change (st.toSt.parts true ps).1 at p2;change (st.toSt.parts true ps).2=jz vs at p3;simp only [Bf,hs,z1,p3,f1];refine⟨(by simp_all [AO]),?_,h3⟩;rw [hr,rz];simp only [DE.toE,hlen,DC.toC]at h2;exact h2
    ·exact Yl.no
   ·exact Yl.no
  ·exact Yl.no
 ·exact Yl.no
theorem ac (hw:AI H st) {d:Nat} {t:TypeId} {l c:Int} {k k':IntKind}:
 Yl (Qs P st d t l c) (fun a_=>(∃ H',Nx H st H' a_)/\(K0 P st.toSt d t (.c (.int k l)) (.c (.int k' c))).1/\B8 (K0 P st.toSt d t (.c (.int k l)) (.c (.int k' c))).2 a_.toSt/\a_.pre=st.pre):=by
 unfold Qs;split
 ·rename_i E n by' hs;split
  ·rename_i z hz;split
   ·rename_i x hx;refine Yl.Tf fun hg=>Yl.opt fun u hu=>(Iw hw (x:= .row E (List.replicate l.toNat x)) (by exact trivial) (fun _=>by simp only [DC.ok])).mono fun a_ h=>?_;simp only [and_eq_true,beq_eq,blt_eq]at hg;obtain⟨g1,g2,g3⟩:=hg;subst g1;obtain⟨h1,h2,h3⟩:=h;obtain⟨z1,z2⟩:=Ix hz;obtain⟨n1,n2,n3,n4⟩:=CJ hu;refine⟨h1,?_⟩;simp only [K0,hs,z1];refine⟨(by simp_all [AO]),?_,h3⟩;have hzx:=(Ir hx).2 rfl;have:=cz (T.enc E) x hzx (by rw [AO];omega) l.toNat
    rw [this];simp only [DE.toE,List.length_replicate,DC.toC]at h2;exact h2
   ·exact Yl.no
  ·exact Yl.no
 ·exact Yl.no
theorem rG {E:Nat} {x:DV T} {m:List (T.den E)} (h:AbX st E x=some m):Rc st.toSt (T.sz E) x.toV=some (m.length,m.flatMap (T.enc E),true):=by
 have hl: ∀ {E':Nat} {l:List (T.den E')} {m:List (T.den E)},Iq (T:=T) false (.t_ E) (.k (.t_ E') l)=some m->(C.sl l.length (l.flatMap (T.enc E'))=C.sl m.length (m.flatMap (T.enc E)))/\T.sz E'=T.sz E/\l.length=m.length:=by
  intro E' l m hc;unfold Iq at hc;simp only at hc;split at hc
  all_goals grind
 unfold AbX at h;split at h
 ·rename_i y;split at h
  ·rename_i id ho;have:=EB ho;subst this;split at h
   ·rename_i E' l hr;obtain⟨a,b,c⟩:=hl h;injection a with a1 a2;simp only [DV.toV,DC.toC,Rc,(BQ hr).1,b,if_true];rw [a1,a2]
   ·cases h
  ·have:=(CK h).2 rfl;simp only [Bk]at this;simp only [DV.toV,this,Rc];rw [if_pos (BO (fun y=>AS E y) m)]
 ·cases h
theorem nk (hw:AI H st) {d:Nat} {t:TypeId} {u x:DV T}:
 Yl (eZ P st d t u x) (fun a_=>(∃ H',Nx H st H' a_)/\(GM P st.toSt d t u.toV x.toV).1/\B8 (GM P st.toSt d t u.toV x.toV).2 a_.toSt/\a_.pre=st.pre):=by
 unfold eZ;split
 ·rename_i id E' n by' hs;split
  ·rename_i E l hr;split
   ·rename_i m hm;refine Yl.Tf fun hg=>Yl.opt fun r hra=>?_;simp only [and_eq_true,beq_eq,blt_eq]at hg;obtain⟨g1,g2,g3⟩:=hg;subst g1 g2;split
    ·rename_i s hn;obtain⟨⟨H',hN⟩,h2,h3⟩:=Af.aca hw (x:= .row E' r) trivial hn;refine Yl.ret ⟨Af.H_ hN _ (by simp only [DV.ok,DC.ok]),?_⟩;have hb:=Kf hra;have hx:=tR hra;simp only [DV.toV,DC.toC,GM,hs,(BQ hr).1,rG hm,true_and];refine⟨⟨g3,hb.1,hb.2⟩,?_,by rw [AU];exact h3⟩;rw [Af.k_];simp only [DE.toE,hx,List.length_append,List.flatMap_append]at h2;simp only [DV.toV,DC.toC,Bool.and_self];exact h2.put _ _
    ·exact Yl.no
   ·exact Yl.no
  ·exact Yl.no
 ·exact Yl.no
theorem Wt (hw:AI H st) (o:Oper):Yl (rE P st o) (Ef H P st o):=by
 have A: ∀ {x:Operand} {v:DV T},st.arg [] x=some v->v.ok H st.nx/\(st.toSt.arg true x).1/\(st.toSt.arg true x).2=v.toV:=fun h=>HC hw h;obtain⟨dst,op,ty,pos,aft,gd⟩:=o;unfold rE;simp only;split
 ·rename_i t x y;split
  ·rename_i p v hp hv;obtain⟨a1,a2,a3⟩:=A hp;obtain⟨b1,b2,b3⟩:=A hv;have e:(jI y v).toV =mt y v.toV:=by unfold jI mt;grind [DV.toV,DC.toC]
   have hok:(jI y v).ok H st.nx:=by unfold jI;grind [DV.ok,DC.ok]
   refine(rF hw hok).mono fun a_ h=>?_;obtain⟨h1,h2,h3,h4⟩:=h;refine⟨h1,?_,?_,h4⟩
   all_goals grind [PL.ef,B8.refl]
  ·exact Yl.no
 ·rename_i hns;split
  ·exact Yl.no
  ·rename_i d;split
   ·rename_i t;split
    ·rename_i cs hz;obtain⟨z1,z2⟩:=Of hz;refine(Iw hw (x:= .box cs) z2 (fun _=>by simp only [DC.ok])).mono fun a_ h=>?_;obtain⟨h1,h2,h3⟩:=h;refine⟨h1,?_,?_,h3⟩
     ·simp only [PL.ef,z1]
     ·simp only [PL.ef,z1];simp only [DE.toE,DC.toC]at h2;exact h2
    ·exact Yl.no
   ·rename_i t x;split
    ·rename_i v hv;split
     ·rename_i cs hc;obtain⟨b1,b2,b3⟩:=A hv;obtain⟨c1,c2⟩:=DV.acQ hc;refine(Iw hw (x:= .box cs) (c2 b1) (fun _=>by simp only [DC.ok])).mono fun a_ h=>?_;obtain⟨h1,h2,h3⟩:=h;refine⟨h1,?_,?_,h3⟩
      ·simp_all [PL.ef]
      ·simp only [PL.ef,b3,c1];simp only [DE.toE,DC.toC]at h2;exact h2
     ·exact Yl.no
    ·exact Yl.no
   ·split
    ·rename_i E n hs;refine Yl.Tf fun hg=>(Iw hw (x:= .row E []) (by exact trivial) (fun _=>by simp only [DC.ok])).mono fun a_ h=>?_;have hg:=eq_of_beq_eq_true hg;subst hg;obtain⟨h1,h2,h3⟩:=h;refine⟨h1,?_,?_,h3⟩
     ·simp only [PL.ef,hs]
     ·simp only [PL.ef,hs];simp only [DE.toE,DC.toC,List.length_nil,List.flatMap_nil]at h2;exact h2
    ·exact Yl.no
   ·rename_i t len ps;refine(XM hw).mono fun a_ h=>?_;obtain⟨h1,h2,h3,h4⟩:=h;exact⟨h1,by simpa only [PL.ef] using h2,by simpa only [PL.ef] using h3,h4⟩
   ·rename_i t l c;split
    ·rename_i k l' k' c' hl hc;obtain⟨a1,a2,a3⟩:=A hl;obtain⟨b1,b2,b3⟩:=A hc;simp only [DV.toV,DC.toC,Bk]at a3 b3;refine(ac hw (k:=k) (k':=k')).mono fun a_ h=>?_;obtain⟨h1,h2,h3,h4⟩:=h;refine⟨h1,?_,?_,h4⟩
     all_goals grind [PL.ef]
    ·exact Yl.no
   ·rename_i c;split
    ·rename_i u x t t' adK abQ akD;split
     ·rename_i a b ha hb;obtain⟨a1,a2,a3⟩:=A ha;obtain⟨b1,b2,b3⟩:=A hb;refine Yl.Tf fun hg=>(nk hw).mono fun a_ h=>?_;have hg:=eq_of_beq_eq_true hg;obtain⟨h1,h2,h3,h4⟩:=h;refine⟨h1,?_,?_,h4⟩
      all_goals grind [PL.ef]
     ·exact Yl.no
    ·exact Yl.no
   ·exact Yl.no
end
end Go.PL
namespace Go.PL
open Go Go.RowKit
structure OE where
 dp:Bool
 E:TypeId
 n:Nat
 len:Nat
 cs:List C
def OE.ent (o:OE) (id:Ah):Au:=⟨id,some (o.E,o.n,o.len),o.cs,true⟩
def C1:List OE->List Ah->List Au
 | o::os,i::is=>o.ent i::C1 os is
 | _,_=>[]
def KO:List OE->List Ah->Bool
 | [],[]=>true
 | o::os,i::is=>(Ep i==o.dp&& !CM i)&&KO os is
 | _,_=>false
inductive PC where
 | c (x:C)
 | o (j:Nat)
def PC.toC (ids:List Ah):PC->C
 | .c x=>x
 | .o j=> .j_ (ids.getD j [])
inductive PP where
 | c (x:PC)
 | a (cs:List PC)
def PP.toV (ids:List Ah):PP->V
 | .c x=> .c (x.toC ids)
 | .a cs=> .agg (cs.map (PC.toC ids))
def NW (ids:List Ah):List PP->V
 | [p]=>p.toV ids
 | ps=> .tup (ps.map (PP.toV ids))
def PC.ok (m:Nat):PC->Bool
 | .c x=>x.pure
 | .o j=>Nat.blt j m
def PP.ok (m:Nat):PP->Bool
 | .c x=>x.ok m
 | .a cs=>cs.all (PC.ok m)
structure MT (P:Program) (I:World->Prop) (f:FuncId) (args:List V) (outs:List OE) (ps:List PP):Prop where
 ent:ent P f=true
 pok:ps.all (PP.ok outs.length)=true
 run: ∀ (w:World) (vs:Array Value) (av:Nat->Prop),I w->(∀ b,av b->b<w.heap.size)->As w (im av) args vs.toList->
  Calls P f vs w (fun e w'=> ∃ v ids G',e= .returned v/\KO outs ids=true/\ids.Nodup/\Ab w' G' (NW ids ps) v/\
   (∀ e∈C1 outs ids,Ba w' G' e/\By w' G' e/\Am e.cs=true)/\(∀ i j b,G'.o_ i=some b->G'.o_ j=some b->i=j)/\
   (∀ i b,G'.o_ i=some b->w.heap.size<=b/\b<w'.heap.size)/\(∀ b,G'.wr b↔av b\/ ∃ i,G'.o_ i=some b)/\Below w.heap.size w w')
def reN (o i:Ah):Ah:=match i with
 | _::k::_=>BR k o
 | _=>o
def LG:List Ah->List Ah->Ah->Option Ah
 | n::ns,o::os,i=>if i=n then some o else if DM n i=true then some (reN o i)else LG ns os i
 | _,_,_=>none
def LW (ns:List Ah) (i:Ah):Bool:=ns.any fun n=>i==n||DM n i
theorem AbY (o n:Ah) (k:Nat):reN o (BR k n)=BR k o:=rfl
theorem rH {ns os:List Ah} {i:Ah} (hl:ns.length=os.length) (h:LW ns i=false):LG ns os i=none:=by
 induction ns generalizing os with
 | nil=>rfl
 | cons n ns ih=>
   cases os<;>simp_all [LW,LG]
theorem jM {ns os:List Ah} {i a:Ah} (h:LG ns os i=some a): ∃ (j:Nat) (n o:Ah),ns[j]? =some n/\os[j]? =some o/\(i=n/\a=o\/ ∃ k,i=BR k n/\a=BR k o):=by
 induction ns generalizing os with
 | nil=>simp [LG]at h
 | cons n ns ih=>
   cases os with
   | nil=>simp [LG]at h
   | cons o os=>
     simp only [LG]at h;split at h
     ·rename_i he;injection h with h;exact⟨0,n,o,rfl,rfl, .inl ⟨he,h.symm⟩⟩
     ·split at h
      ·rename_i he;obtain⟨k,rfl⟩:=pm he;injection h with h;exact⟨0,n,o,rfl,rfl, .inr ⟨k,rfl,h.symm⟩⟩
      ·obtain⟨j,n',o',h1,h2,h3⟩:=ih h;exact⟨j+1,n',o',h1,h2,h3⟩
theorem yk {ns os:List Ah} {j:Nat} {n o:Ah} (hn:ns.Nodup) (hmk: ∀ n∈ns,CM n=false) (h1:ns[j]? =some n) (h2:os[j]? =some o):LG ns os n=some o/\ ∀ k,LG ns os (BR k n)=some (BR k o):=by
 induction ns generalizing os j with
 | nil=>simp at h1
 | cons m ns ih=>
   cases os with
   | nil=>simp at h2
   | cons q os=>
     simp only [nodup_cons]at hn;cases j with
     | zero=>
       simp only [List.getElem?_cons_zero,injEq]at h1 h2;subst h1 h2;refine⟨by simp [LG],fun k=>?_⟩;simp only [LG];rw [if_neg (fun e=>by have:=hmk m (by simp);rw [<-e]at this;cases this),if_pos (by rw [IZ];simp),AbY]
     | succ j=>
       simp only [List.getElem?_cons_succ]at h1 h2;have hm:n∈ns:=(by grind);have Tg:n ≠ m:=(by grind);obtain⟨a,b⟩:=ih hn.2 (fun x hx=>hmk x (by simp [hx])) h1 h2;have hmn:=hmk n (by simp [hm]);refine⟨?_,fun k=>?_⟩
       ·simp only [LG];rw [if_neg Tg,if_neg (fun e=>by obtain⟨k,rfl⟩:=pm e;cases hmn)];exact a
       ·simp only [LG];rw [if_neg (fun e=>by have:=hmk m (by simp);rw [<-e]at this;cases this),if_neg (fun e=>by rw [IZ]at e;exact Tg (by simpa using e))];exact b k
theorem AbZ {α:Type} {l:List α} (h:l.Nodup) {i j:Nat} {x:α} (hi:l[i]? =some x) (hj:l[j]? =some x):i=j:=by grind [List.pairwise_iff_getElem]
theorem uL {ns os:List Ah} {i j a:Ah} (hn:ns.Nodup) (ho:os.Nodup) (hmo: ∀ o∈os,CM o=false) (h1:LG ns os i=some a) (h2:LG ns os j=some a):i=j:=by
 obtain⟨p,n,o,a1,a2,a3⟩:=jM h1;obtain⟨q,n',o',b1,b2,b3⟩:=jM h2;have key:o=o'->p=q:=(by grind [AbZ]);have m1:=hmo o (mem_of_getElem? a2);have m2:=hmo o' (mem_of_getElem? b2);rcases a3 with ⟨rfl,rfl⟩ | ⟨k,rfl,rfl⟩<;>rcases b3 with ⟨rfl,e⟩ | ⟨k',rfl,e⟩
 ·grind
 ·rw [e]at m1;cases m1
 ·rw [<-e]at m2;cases m2
 grind [Q1]
theorem JH: ∀ {outs:List OE} {ids:List Ah},KO outs ids=true->ids.length=outs.length/\(∀ i∈ids,CM i=false)/\ ∀ (j:Nat) (o:OE) (i:Ah),outs[j]? =some o->ids[j]? =some i->Ep i=o.dp
 | [],[],_=>(by grind)
 | [],_::_,h=>by simp [KO]at h
 | _::_,[],h=>by simp [KO]at h
 | o::os,i::is,h=>by simp only [KO,and_eq_true,beq_iff_eq,not_eq_true']at h;obtain⟨a,b,c⟩:=JH h.2;grind
theorem TB: ∀ {outs:List OE} {ids:List Ah} {e:Au},e∈C1 outs ids-> ∃ (j:Nat) (o:OE) (i:Ah),outs[j]? =some o/\ids[j]? =some i/\e=o.ent i
 | [],_,_,h=>by simp [C1]at h
 | _::_,[],_,h=>by simp [C1]at h
 | o::os,i::is,e,h=>by
   simp only [C1,mem_cons]at h;rcases h with rfl | h
   ·exact⟨0,o,i,rfl,rfl,rfl⟩
   ·obtain⟨j,o',i',a,b,c⟩:=TB h;exact⟨j+1,o',i',by grind,by grind,c⟩
theorem XN: ∀ {outs:List OE} {ids:List Ah} {j:Nat} {o:OE} {i:Ah},outs[j]? =some o->ids[j]? =some i->o.ent i∈C1 outs ids
 | [],_,_,_,_,h,_=>by simp at h
 | _::_,[],_,_,_,_,h=>by simp at h
 | o::os,i::is,0,o',i',h1,h2=>by grind [C1]
 | o::os,i::is,j+1,o',i',h1,h2=>by simp only [C1,mem_cons];exact .inr (XN (by simpa using h1) (by simpa using h2))
theorem cR: ∀ {outs:List OE} {ids:List Ah},ids.length=outs.length->(C1 outs ids).map (·.id)=ids
 | [],[],_=>rfl
 | [],_::_,h=>by simp at h
 | _::_,[],h=>by simp at h
 | o::os,i::is,h=>by simp only [C1,map_cons,OE.ent,cR (outs:=os) (ids:=is) (by simpa using h)]
theorem Cu.sub {G G':AF} {w:World} (h: ∀ b,b<w.heap.size->G'.wr b->G.wr b):Cu G G' w w:=⟨le_refl _,fun _ _ _=>rfl,h,fun _ _ _ _=>Co.same rfl⟩
theorem AaT {w:World} {G G':AF} {ids ns:List Ah} {m:Nat} (hk:Cu G G' w w) (hl:ids.length=m) (ho: ∀ (j:Nat) (i n:Ah),ids[j]? =some i->ns[j]? =some n->G'.own n=G.own i) (hl2:ns.length=m) {p:PC} (hp:p.ok m=true) {v:Value} (h:Ae w G (p.toC ids) v):Ae w G' (p.toC ns) v:=by
 cases p with
 | c x=>exact Ae.mono hk x v (fun i hi=>absurd (show x.p_ i=true from hi) (by rw [Im i x hp];simp)) h
 | o j=>
   grind [PC.ok,blt_eq,PC.toC,Ae]
theorem AaU {w:World} {G G':AF} {ids ns:List Ah} {m:Nat} (hk:Cu G G' w w) (hl:ids.length=m) (ho: ∀ (j:Nat) (i n:Ah),ids[j]? =some i->ns[j]? =some n->G'.own n=G.own i) (hl2:ns.length=m): ∀ {ps:List PC} {vs:List Value},ps.all (PC.ok m)=true->Ai w G (ps.map (PC.toC ids)) vs->Ai w G' (ps.map (PC.toC ns)) vs
 | [],[],_,_=>by simp [Ai]
 | [],_::_,_,h=>by simp [Ai]at h
 | _::_,[],_,h=>by simp [Ai]at h
 | p::ps,v::vs,hp,h=>by simp only [all_cons,and_eq_true]at hp;simp only [map_cons,Ai]at h ⊢;exact⟨AaT hk hl ho hl2 hp.1 h.1,AaU hk hl ho hl2 hp.2 h.2⟩
theorem AaV {w:World} {G G':AF} {ids ns:List Ah} {m:Nat} (hk:Cu G G' w w) (hl:ids.length=m) (ho: ∀ (j:Nat) (i n:Ah),ids[j]? =some i->ns[j]? =some n->G'.own n=G.own i) (hl2:ns.length=m) {p:PP} (hp:p.ok m=true) {v:Value} (h:Ab w G (p.toV ids) v):Ab w G' (p.toV ns) v:=by
 cases p with
 | c x=>simp only [PP.toV,Ab]at h ⊢;exact AaT hk hl ho hl2 hp h
 | a cs=>
   simp only [PP.toV,Ab]at h ⊢;obtain⟨arr,e,h⟩:=h;exact⟨arr,e,AaU hk hl ho hl2 hp h⟩
theorem nl {w:World} {G G':AF} {ids ns:List Ah} {m:Nat} (hk:Cu G G' w w) (hl:ids.length=m) (ho: ∀ (j:Nat) (i n:Ah),ids[j]? =some i->ns[j]? =some n->G'.own n=G.own i) (hl2:ns.length=m): ∀ {ps:List PP} {vs:List Value},ps.all (PP.ok m)=true->As w G (ps.map (PP.toV ids)) vs->As w G' (ps.map (PP.toV ns)) vs
 | [],vs,_,h=>by simpa [As] using h
 | p::ps,vs,hp,h=>by simp only [all_cons,and_eq_true]at hp;simp only [map_cons,As]at h ⊢;obtain⟨v,r,e,h1,h2⟩:=h;exact⟨v,r,e,AaV hk hl ho hl2 hp.1 h1,nl hk hl ho hl2 hp.2 h2⟩
theorem Ab0 {w:World} {G G':AF} {ids ns:List Ah} {m:Nat} (hk:Cu G G' w w) (hl:ids.length=m) (ho: ∀ (j:Nat) (i n:Ah),ids[j]? =some i->ns[j]? =some n->G'.own n=G.own i) (hl2:ns.length=m) {ps:List PP} (hp:ps.all (PP.ok m)=true) {v:Value} (h:Ab w G (NW ids ps) v):Ab w G' (NW ns ps) v:=by
 match ps,hp,h with
 | [p],hp,h=>
   simp only [all_cons,List.all_nil,Bool.and_true]at hp;exact AaV hk hl ho hl2 hp h
 | [],hp,h=>
   grind [NW,Ab,nl]
 | p::q::ps,hp,h=>
   grind [NW,Ab,nl]
theorem fa {w:World} {G G':AF} (hk:Cu G G' w w) {i n:Ah} {r:TypeId×Nat×Nat} {cs:List C} (hp:Am cs=true) (hb:G'.o_ n=G.o_ i) (ho:G'.own n=G.own i) (h:Ba w G ⟨i,some r,cs,true⟩):Ba w G' ⟨n,some r,cs,true⟩:=by
 obtain⟨E,m,len⟩:=r;unfold Ba at *;obtain⟨hl,v,h1,h2⟩:=h;refine⟨hl,v,by grind,?_⟩;rcases h2 with ⟨p,e1,e2,e3⟩ | ⟨b,cap,cur,e1,e2,e3,e4,e5,e6,e7⟩
 ·grind
 ·exact .inr ⟨b,cap,cur,e1,by grind,e3,e4,e5,e6,Al.mono hk _ _ _ (fun i hi=>absurd (show BU i cs=true from hi) (by rw [AQ i cs hp];simp)) (fun _=>rfl) e7⟩
end Go.PL
namespace Go.PL
open Go Go.RowKit
section
variable {F:Fr} {st:St} {a:Act} {w w':World} {G Gc:AF}
def Ko (F:Fr) (G Gc:AF) (ns ids:List Ah):AF where
 o_:=fun i=>match LG ns ids i with | some a=>Gc.o_ a | none=>G.o_ i
 own:=fun i=>match LG ns ids i with | some a=>Gc.own a | none=>G.own i
 wr:=fun x=>F.av x\/ ∃ i,(match LG ns ids i with | some a=>Gc.o_ a | none=>G.o_ i)=some x
theorem R.arl (h:R F st a w G) (hb:Below w.heap.size w w') {outs:List OE} {ids ns:List Ah} {av:Nat->Prop} (hav: ∀ b,G.wr b->av b) (afZ:KO outs ids=true) (hnd:ids.Nodup) (hns:KO outs ns=true) (hnn:ns.Nodup)
 (hE: ∀ e∈C1 outs ids,Ba w' Gc e/\By w' Gc e/\Am e.cs=true) (aqU: ∀ i j b,Gc.o_ i=some b->Gc.o_ j=some b->i=j) (hfr: ∀ i b,Gc.o_ i=some b->w.heap.size<=b/\b<w'.heap.size) (hwr: ∀ b,Gc.wr b↔av b\/ ∃ i,Gc.o_ i=some b):
 R F (st.e_ (LW ns) (C1 outs ns++(st.so.filter fun e=> !(LW ns e.id)).map (Au.e_ (LW ns)))) a w' (Ko F G Gc ns ids)/\Cu Gc (Ko F G Gc ns ids) w' w'/\
   ∀ (j:Nat) (i n:Ah),ids[j]? =some i->ns[j]? =some n->(Ko F G Gc ns ids).own n=Gc.own i:=by
 obtain⟨l1,m1,d1⟩:=JH afZ;obtain⟨l2,m2,d2⟩:=JH hns;have aAX: ∀ i,LW ns i=false->LG ns ids i=none:=fun i hi=>rH (by omega) hi;have hin: ∀ (j:Nat) (i n:Ah),ids[j]? =some i->ns[j]? =some n->LG ns ids n=some i/\ ∀ k,LG ns ids (BR k n)=some (BR k i):=(by grind [yk]);have sub: ∀ b,(Ko F G Gc ns ids).wr b->Gc.wr b:=fun b hw=>by
  rw [hwr];simp only [Ko]at hw;rcases hw with q | ⟨i,q⟩
  ·exact .inl (hav b ((h.wr b).2 (.inl q)))
  ·split at q
   ·grind
   ·exact .inl (hav b ((h.wr b).2 (.inr ⟨i,q⟩)))
 have hk:Cu Gc (Ko F G Gc ns ids) w' w':=Cu.sub (by grind);have t:aaf F (LW ns) (fun _=>false) G (Ko F G Gc ns ids) w w':={
  agree:=(by simp_all [Ko])
  same:=fun i b _ hib=>hb.block b (h.lt i b hib)
  keeps:=⟨hb.size,fun b hb' _=>hb.block b hb',fun b hb' hw=>by simp only [Ko]at hw;rw [h.wr];grind,fun i b q1 _=>Co.same (hb.block b (h.lt i b q1))⟩
  outer:=Et hb
  ext:=fun b hb' _=>hb.block b (Nat.lt_of_lt_of_le hb' h.v_)
  wr:=fun b=>Iff.rfl
  inj:=fun i j b q1 q2=>by
   simp only [Ko]at q1 q2;split at q1<;>split at q2
   ·grind [uL]
   ·have a1:=hfr _ _ q1;have a2:=h.lt _ _ q2;omega
   ·have a1:=hfr _ _ q2;have a2:=h.lt _ _ q1;omega
   ·exact h.inj _ _ _ q1 q2
  lt:=fun i b q=>by
   simp only [Ko]at q;split at q
   ·grind
   ·exact Nat.lt_of_lt_of_le (h.lt _ _ q) hb.size
  new:=fun i b q=>by
   simp only [Ko]at q;split at q
   ·exact .inl (Nat.le_trans h.v_ (hfr _ _ q).1)
   ·exact h.new _ _ q}
 have aah: ∀ (j:Nat) (i n:Ah),ids[j]? =some i->ns[j]? =some n->(Ko F G Gc ns ids).own n=Gc.own i:=(by grind [Ko]);have abm: ∀ (j:Nat) (i n:Ah),ids[j]? =some i->ns[j]? =some n->(Ko F G Gc ns ids).o_ n=Gc.o_ i:=(by grind [Ko]);have new: ∀ e∈C1 outs ns,Ba w' (Ko F G Gc ns ids) e/\By w' (Ko F G Gc ns ids) e/\Am e.cs=true:=by
  intro e he;obtain⟨j,o,n,q1,q2,rfl⟩:=TB he;have hj:j<ids.length:=by grind
  obtain⟨i,q3⟩: ∃ i,ids[j]? =some i:=(by grind);obtain⟨e1,e2,e3⟩:=hE _ (XN q1 q3);have hb1:=abm j i n q3 q2;have ho1:=aah j i n q3 q2;refine⟨fa hk e3 hb1 ho1 e1,⟨m2 n (mem_of_getElem? q2),fun hd=>⟨rfl,rfl,?_⟩⟩,e3⟩;have hdi:Ep i=true:=by rw [d1 j o i q1 q3, <-d2 j o n q1 q2];exact hd
  obtain⟨_,_,hI⟩:=e2.2 hdi;intro k E n' len cs hc;obtain⟨p1,p2,b,v,p3,p4,p5⟩:=hI k E n' len cs hc;have hm:=(hin j i n q3 q2).2 k;have hbm:(Ko F G Gc ns ids).o_ (BR k n)=Gc.o_ (BR k i):=by simp only [Ko,hm]
  have hom:(Ko F G Gc ns ids).own (BR k n)=Gc.own (BR k i):=by simp only [Ko,hm]
  exact⟨p1,fa hk p1 hbm hom p2,b,v,hb1.trans p3,p4,hom.trans p5⟩
 have hold: ∀ e∈(st.so.filter fun e=> !(LW ns e.id)).map (Au.e_ (LW ns)), ∃ d∈st.so,LW ns d.id=false/\e=d.e_ (LW ns):=by grind
 have hdk: ∀ d∈st.so,LW ns d.id=false->Ep d.id=true-> ∀ k,LW ns (BR k d.id)=false/\(fun _=>false:Ah->Bool) (BR k d.id)=false:=by
  intro d hd hp hD k;refine⟨?_,rfl⟩;cases hq:LW ns (BR k d.id)with
  | false=>rfl
  | true=>
    obtain⟨n,hn,hq⟩:=List.any_eq_true.1 hq;simp only [or_eq_true,beq_iff_eq]at hq;rcases hq with hq | hq
    ·have:=m2 n hn;rw [<-hq]at this;cases this
    simp_all [IZ,LW]
 refine⟨t.aeX h _ (fun e he=>?_) (fun e he=>?_) (fun e he=>?_) ?_,hk,aah⟩
 ·rcases mem_append.1 he with he | he
  ·grind
  ·obtain⟨d,h1,h2,rfl⟩:=hold e he;exact t.ent h h1 h2 rfl
 ·rcases mem_append.1 he with he | he
  ·grind
  ·obtain⟨d,h1,h2,rfl⟩:=hold e he;exact t.deep h h1 h2 rfl (hdk d h1 h2)
 ·rcases mem_append.1 he with he | he
  ·grind
  ·obtain⟨d,h1,h2,rfl⟩:=hold e he;exact Qf (h.y_ d h1)
 ·rw [map_append,cR l2,map_map];have e1:(fun e:Au=>e.id) ∘ Au.e_ (LW ns)=fun e=>e.id:=by grind [Au.u_]
  rw [e1];refine List.nodup_append.2 ⟨hnn,List.Sublist.nodup (by grind [List.filter_sublist]) h.nodup,fun x hx y hy=>?_⟩;obtain⟨d,hd,rfl⟩:=mem_map.1 hy;grind [LW]
theorem DL.aun {P:Program} {I:World->Prop} {o:Oper} {K:St->Prop} {f:FuncId} {xs:List Operand} {outs:List OE} {ps:List PP} (d:Nat)
 (hk:BH o.op= .call f xs) (hd:o.dst=some d) (ha:(st.args true xs).1) (hp:Cq ((st.args true xs).2.map (BF st))=true) (atf:C7 (st.args true xs).2=[])
 (hc:MT P I f ((st.args true xs).2.map (BF st)) outs ps) {ns:List Ah} (hns:KO outs ns=true) (hnn:ns.Nodup)
 (hK:K ((st.e_ (LW ns) (C1 outs ns++(st.so.filter fun e=> !(LW ns e.id)).map (Au.e_ (LW ns)))).put (some d) (NW ns ps))):DL P I o st K:=by
 intro F a w G Q0 hI hR;have hI':I w:=hI▸hR.inv w hR.v_ hR.ext;have hr:=Ri (a:=a) hk hc.ent w;unfold Oper.wp Oper.upon;rw [hr];have hx:As w G (st.args true xs).2 (xs.map a.eval):=hR.args rfl ha;have h3:=Ht hR (av:=fun b=>G.wr b) (fun _ _ q=>q) (by grind) hp hx;refine(hc.run w (xs.map a.eval).toArray (fun b=>G.wr b) hI' (fun b hb=>hR.aiu hb) (by grind)).mono fun e w' ⟨v,ids,Gc,he,afZ,hnd,hv,hE,aqU,hfr,hwr,hb⟩=>?_;subst he;obtain⟨g1,g2,g3⟩:=hR.arl hb (fun _ q=>q) afZ hnd hns hnn hE aqU hfr hwr;refine⟨_,Ko F G Gc ns ids,hK,?_⟩;rw [hd];exact R.put (d:=some d) g1 (Ab0 g2 (JH afZ).1 g3 (JH hns).1 hc.pok hv)
def Aer (P:Program) (st:St) (rs:List ResultVar) (outs:List OE) (ps:List PP):Prop:=
 ∃ ids,KO outs ids=true/\ids.Nodup/\(CI P st rs).1/\(∀ (w:World) (G:AF) (v:Value),Ab w G (CI P st rs).2 v->Ab w G (NW ids ps) v)/\ ∀ e∈C1 outs ids,e∈st.so
theorem MT.of {P:Program} {I:World->Prop} (hst:J8 I) {f:FuncId} {fn:Func} {c:Code} {args:List V} {outs:List OE} {ps:List PP} (abh:PL.ent P f=true) (hf:P.funcs[f]? =some fn) (hb:fn.body=some c) (axv:ps.all (PP.ok outs.length)=true)
 (h: ∀ F:Fr,F.I=I->Ad P F c (St.start args fn.ntmps) (fun e a_=>(e= .normal \/e= .ret)/\Aer P a_ fn.results.toList outs ps)):MT P I f args outs ps:=by
 refine⟨abh,axv,fun w vs av hI hav abQ=>calls_of_wp hf hb ?_⟩;have hR:=R.start hst hI hav abQ fn.ntmps;refine Code.wp_mono (fun e a' w' ⟨a_,G',⟨he,q⟩,hR'⟩=>?_) (h ⟨w,av,fun _=>False,I,[]⟩ rfl _ _ _ hR);obtain⟨ids,q1,q2,q3,q4,q5⟩:=q;obtain⟨v,r1,r2⟩:=MN hR' (fn:=fn) q3;have fin:a'.defers=[]/\ ∃ v,(results fn a'.tmps).run P w'= .ok v w'/\(fun(e:Ending) w''=> ∃ v ids G',e= .returned v/\KO outs ids=true/\ids.Nodup/\Ab w'' G' (NW ids ps) v/\
  (∀ e∈C1 outs ids,Ba w'' G' e/\By w'' G' e/\Am e.cs=true)/\(∀ i j b,G'.o_ i=some b->G'.o_ j=some b->i=j)/\
  (∀ i b,G'.o_ i=some b->w.heap.size<=b/\b<w''.heap.size)/\(∀ b,G'.wr b↔av b\/ ∃ i,G'.o_ i=some b)/\Below w.heap.size w w'') (.returned v) w':=by
  refine⟨hR'.dfr,v,r1,v,ids,G',rfl,q1,q2,q4 _ _ _ r2,fun e he'=>⟨hR'.store e (q5 e he'),hR'.deep e (q5 e he'),?_⟩,hR'.inj,fun i b hib=>⟨?_,hR'.lt i b hib⟩,hR'.wr,hR'.below (fun _ hx=>hx)⟩
  ·refine hR'.y_ e (q5 e he') ?_;obtain⟨j,o,i,_,_,rfl⟩:=TB he';rfl
  ·rcases hR'.new i b hib with q | q
   all_goals grind
 rcases he with rfl | rfl<;>exact fin
end
end Go.PL
