/- The pure logic: PlPk, PlPm, PlPn, PlPo, PlPp, PlPr, PlPt, PlPv, PlPu, PlPw, PlPd, PlPx. -/
import Derived.Test.YtelbpfkjhndccaaGreatDoorPlOtoPlPj
import Derived.Scope
import Derived.Lib.AppendStr
import Derived.Lib.Builder
import Derived.Lib.UnsafeStr
import Derived.MapKept
import Derived.Lib.Join
import Derived.JoinedOf
import Derived.Handed
import Derived.LaidSub
import Derived.Lib.LaidTab
namespace Go.PL
open Go Go.RowKit
section
variable {P:Program} {F:Fr} {st:St}
def JM (Q:Exit→St→Prop):Exit→St→Prop
 | .goto _,_=>False
 | e,st=>Q e st
theorem JM.normal {Q:Exit→St→Prop} (h:Q .normal st):JM Q .normal st:=h
theorem JM.ret {Q:Exit→St→Prop} (h:Q .ret st):JM Q .ret st:=h
theorem JM.exit {Q:Exit→St→Prop} {i:Nat} (h:Q (.exit i) st):JM Q (.exit i) st:=h
theorem Ai.label {l:Nat} {Q:Exit→St→Prop} (h:Q .normal st):Ai P F (.label l) st Q:=fun _ _ G hR=>wp_label ⟨st,G,h,hR⟩
theorem Ai.scope {c:Code} {Q:Exit→St→Prop} (h:Ai P F c st (JM Q)):Ai P F (.scope c) st Q:=
 fun a w G hR=>wp_scope_straight (Code.wp_mono (fun e a' w' ⟨st',G',q,hR'⟩=>by
  cases e<;>simp only [Exit.noGoto,JM]at q ⊢ <;>first
   | exact q.elim
   | exact⟨st',G',q,hR'⟩) (h a w G hR))
end
end Go.PL
namespace Go.PL
open Go Go.RowKit
theorem EB.cc {P:Program} {I:World→Prop} {o:Oper} {st:St} {K:St→Prop} {f:FuncId} {x:Operand} {T:TypeId} {id:Cz} {c1:C} (hk:Dx o.op= .call f [x]) (hent:ent P f=true)
 (hused: ∀ (b:Nat) (w:World),w.cell? ⟨b,0,none⟩=some (.pointer (some ⟨b,0,none⟩))→Calls P f #[.pointer (some ⟨b,0,none⟩)] w fun e w'=>e= .returned (.tuple #[])∧w'=w)
 (hfresh: ∀ (b:Nat) (w:World),w.cell? ⟨b,0,none⟩=some (.pointer none)→w.shape? b=some (T,2)→w.frozen? ⟨b,0,none⟩=false→Calls P f #[.pointer (some ⟨b,0,none⟩)] w fun e w'=>e= .returned (.tuple #[])∧w'=w.setCell ⟨b,0,none⟩ (.pointer (some ⟨b,0,none⟩)))
 (hK:K (st.put o.dst (.tup []))) (hx:st.ev x= .c (.ptr id 0):=by kernel_rfl) (hl:st.look id=some ⟨id,none,[.bld id T,c1],false⟩:=by kernel_rfl):EB P I o st K:=by
 intro F a w G Q hI hR
 have hr:=Pv (a:=a) hk hent w
 unfold Oper.wp Oper.upon
 rw [hr]
 have hxv:=hR.ev x
 rw [hx]at hxv
 simp only [Ap,As]at hxv
 obtain⟨b,hb,hxb⟩:=hxv
 obtain⟨hm, -⟩:=DA hl
 have hE:=hR.store _ hm
 obtain⟨b',q1,hbx⟩:=(by simpa only [HN] using hE: ∃ b,G.blk id=some b∧X2 w G [C.bld id T,c1] b)
 obtain⟨T',cur,q2,q3,q4⟩:=hbx.cells rfl
 rw [hb]at q1;injection q1 with q1;subst q1
 have q4':=q4
 simp only [A0,As]at q4
 obtain⟨⟨v,hv,b2,hb2,⟨cur2,fz,hh⟩,hn⟩,_⟩:=q4
 rw [hb]at hb2;injection hb2 with hb2;subst hb2
 rw [q2]at hh
 injection hh with hh
 injection hh with h1 h2 h3
 subst h2
 have tupR: ∀ w',Ap w' G (.tup []) (.tuple #[]):=fun w'=>by simp [Ap,Bc]
 have harg:([x].map a.eval).toArray = #[.pointer (some ⟨b,0,none⟩)]:=by simp [hxb]
 rw [harg]
 rcases hn with rfl | rfl
 ·have hsh:w.shape? b=some (T',2):=by
   simp only [World.shape?,q2]
   have:cur.size=2:=q3
   rw [this]
  have hfz:w.frozen? ⟨b,0,none⟩=false:=by simp [World.frozen?,q2]
  refine(hfresh b w hv hsh hfz).mono fun e w' ⟨he,hw⟩=>?_
  subst he
  refine⟨_,G,hK,?_⟩
  have hrl:AD w G [C.bld id T'] [.pointer (some ⟨b,0,none⟩)]:=by
   simp only [AD,As,and_true]
   exact⟨b,hb,⟨cur,(0,0),q2⟩, .inr rfl⟩
  obtain⟨cur3,T3,k1,k2,k3⟩:=hR.stored hl hb (off:=0) (xs:=[C.bld id T']) hrl (by simp)
  rw [q2]at k1;injection k1 with k1;injection k1 with k1 k1b _;subst k1 k1b
  have hst:st.setCs id (([C.bld id T',c1]).take 0++[C.bld id T']++([C.bld id T',c1]).drop (0+[C.bld id T'].length)) (Bq [C.bld id T'])=st:=by
   have hn:=hR.nodup
   obtain⟨tm,so,gh,pre⟩:=st
   simp only [St.setCs,St.mk.injEq,true_and,and_true]
   conv=>rhs;rw [←List.map_id so]
   refine List.map_congr_left fun d hd=>?_
   split
   ·rename_i hdid
    have hdid:d.id=id:=by simpa using hdid
    have hde:d=⟨id,none,[C.bld id T',c1],false⟩:=by
     have:=List.pairwise_map.1 hn
     rcases List.mem_iff_getElem.1 hd with ⟨i,hi,hi2⟩
     rcases List.mem_iff_getElem.1 hm with ⟨j,hj,hj2⟩
     rcases Nat.lt_trichotomy i j with q | q | q
     ·exact absurd (by rw [hi2,hj2];exact hdid) (List.pairwise_iff_getElem.1 this i j hi hj q)
     ·subst q;rw [←hi2];exact hj2
     ·exact absurd (by rw [hi2,hj2];exact hdid.symm) (List.pairwise_iff_getElem.1 this j i hj hi q)
    rw [hde];rfl
   ·rfl
  rw [hst]at k3
  have hww:w'=w.setRow b (cur.toList.take 0++[Value.pointer (some ⟨b,0,none⟩)]++cur.toList.drop (0+[Value.pointer (some ⟨b,0,none⟩)].length)).toArray :=by
   rw [hw,setCell_eq_setRow w b 0 cur T' (0,0) _ q2]
   congr 1
   have h2:cur.size=2:=q3
   apply Array.ext'
   rw [Array.toList_setIfInBounds]
   obtain⟨l⟩:=cur
   match l,h2 with
   | [u1,u2],_=>rfl
  rw [hww]
  exact k3.put (tupR _)
 ·refine(hused b w hv).mono fun e w' ⟨he,hw⟩=>?_
  subst he hw
  exact⟨_,G,hK,hR.put (tupR _)⟩
end Go.PL
namespace Go.PL
open Go Go.RowKit Go.Lib
def eW (s:List UInt8):List C:=s.map fun b=> .int .u8 b.toNat
end Go.PL
namespace Go.PL
open Go Go.RowKit
section
variable {P:Program} {F:Fr} {st:St} {ops:Array Oper}
end
end Go.PL
namespace Go.PL
open Go Go.RowKit
theorem Wj {w:World} {G:B0}: ∀ {s:List UInt8} {vs:List Value},AD w G (eW s) vs→vs=Lib.byteCells s
 | [],[],_=>rfl
 | [],_::_,h=>by simp [eW,AD]at h
 | _::_,[],h=>by simp [eW,AD]at h
 | b::s,v::vs,h=>by
   simp only [eW,List.map_cons,AD,As]at h
   have:=Wj (s:=s) (vs:=vs) h.2
   rw [h.1,this];rfl
theorem R.builder {F:Fr} {st:St} {a:Act} {w:World} {G:B0} (hR:R F st a w G) (hold: ∀ b, ¬F.old b) {id:Cz} {T E:TypeId} {c1:C} {s:List UInt8} {b:Nat} (hb:G.blk id=some b)
 (hl:st.look id=some ⟨id,none,[.bld id T,c1],false⟩)
 (h:(∃ r pu,c1= .osl r∧r ≠ id∧st.look r=some ⟨r,some (E,1,s.length),eW s,pu⟩∧s ≠ [])∨(c1= .nils ∧s=[])):Lib.IsBuilder T E F.w0.heap.size b (Lib.byteCells s) w:=by
 obtain⟨hm, -⟩:=DA hl
 have hE:=hR.store _ hm
 obtain⟨b',q1,hbx⟩:=(by simpa only [HN] using hE: ∃ b,G.blk id=some b∧X2 w G [C.bld id T,c1] b)
 obtain⟨T',cur,q2,q3,q4⟩:=hbx.cells rfl
 rw [hb]at q1;injection q1 with q1;subst q1
 obtain⟨us,r1,r2⟩:=q4.list
 have hpre:=Lz q2 r2
 obtain⟨v0,v1,rfl⟩: ∃ v0 v1,us=[v0,v1]:=by
  have:=r1.length
  match us,this with
  | [x,y],_=>exact⟨x,y,rfl⟩
 have hcur:cur= #[v0,v1]:=by
  apply Array.ext'
  have h2:cur.toList.length=2:=by simpa using q3
  have h3:=congrArg List.length hpre
  simp only [List.length_append,List.length_drop,List.length_cons,List.length_nil]at h3
  rw [←hpre]
  have:cur.toList.drop [v0,v1].length =[]:=List.length_eq_zero_iff.1 (by rw [List.length_drop,h2];rfl)
  rw [this];rfl
 subst hcur
 simp only [AD,As,and_true]at r1
 obtain⟨⟨b2,hb2,⟨cur2,fz,hh⟩,hn⟩,hc1⟩:=r1
 rw [hb]at hb2;injection hb2 with hb2;subst hb2
 rw [q2]at hh
 injection hh with hh
 injection hh with _ hT _
 subst hT
 have hbB:F.w0.heap.size≤b:=(hR.new _ _ hb).resolve_right (hold b)
 have key:w.ownsRow F.w0.heap.size E 1 v1 (Lib.byteCells s).length (Lib.byteCells s)∧v1.ownBlock ≠ some b:=by
  rcases h with ⟨r,pu,rfl,hrid,hlr,hs⟩ | ⟨rfl,rfl⟩
  ·simp only [As]at hc1
   obtain⟨hmr, -⟩:=DA hlr
   obtain⟨v,xs,k1,k2,k3,k4⟩:=Ld rfl (hR.store _ hmr)
   have hv:v=v1:=by
    have:=hc1.1
    rw [k1]at this
    injection this
   subst hv
   rcases k4 with ⟨k4,k5⟩ | ⟨p,_,k5,_⟩
   ·have hxs:=Wj k3
    subst hxs
    have hbl:(Lib.byteCells s).length =s.length:=Lib.byteCells_length s
    rw [hbl]
    refine⟨⟨k4.1,?_⟩,fun q=>hrid (hR.inj _ _ b (by rw [←k5];exact q) hb)⟩
    rcases k4.2 with q | ⟨g,cap,cur,q,z1,z2,z3,z4,z5,z6⟩
    ·exact .inl q
    ·refine .inr ⟨g,cap,cur,q,?_,z2,z3,z4,z5,z6⟩
     have hg:G.blk r=some g:=by
      have k5':v.ownBlock=G.blk r:=k5
      rw [←k5',q];rfl
     exact(hR.new _ _ hg).resolve_right (hold g)
   ·exact absurd (List.length_eq_zero_iff.1 k5) hs
  ·simp only [As]at hc1
   subst hc1
   exact⟨World.ownsRow_nil w _ E 1,by simp [Value.ownBlock]⟩
 rcases hn with rfl | rfl
 ·exact .inl ⟨hbB,v1,q2,key.1,key.2⟩
 ·exact .inr ⟨hbB,v1,q2,key.1,key.2⟩
end Go.PL
namespace Go.PL
open Go Go.RowKit Go.MapKept
def GV:List (Int×Int)→Int→Nat→Option (Nat×Int)
 | [],_,_=>none
 | p::l,k,i=>if k==p.1 then some (i,p.2)else GV l k (i+1)
def Cn (kv:List (Int×Int)) (k:Int):Int:=match GV kv k 0 with
 | some (_,v)=>v
 | none=>0
def ky (kv:List (Int×Int)) (k:Int):List (Int×Int):=match GV kv k 0 with
 | some _=>kv
 | none=>kv++[(k,0)]
def TX (kv:List (Int×Int)) (i:Nat) (x:Int):List (Int×Int):=kv.modify i fun p=>(p.1,x)
def TY (p:(Int×Int)×Nat):MapEntry:=⟨.int .i64 p.1.1, .int .i64 p.1.2,p.2⟩
theorem LV {kv:List (Int×Int)} {es:List MapEntry}:Ov kv es↔es=kv.zipIdx.map TY:=Iff.rfl
theorem LA {kk:IntKind} (k:Int): ∀ (kv:List (Int×Int)) (n i:Nat),Instr.findNow (.int kk) (.int .i64 k) ((kv.zipIdx n).map TY) i=some ((GV kv k i).map fun q=>(q.1, .int .i64 q.2))
 | [],_,_=>rfl
 | p::l,n,i=>by
   have ih:=LA (kk:=kk) k l (n+1) (i+1)
   simp only [List.zipIdx_cons,List.map_cons,Instr.findNow,TY,Instr.sameNow,if_true,GV]at ih ⊢
   cases h:(k==p.1)
   ·simpa using ih
   ·simp
theorem O2 {k:Int}: ∀ {kv:List (Int×Int)} {n i:Nat} {v:Int},GV kv k n=some (i,v)→n≤i∧kv[i - n]? =some (k,v)
 | [],_,_,_,h=>by simp [GV]at h
 | p::l,n,i,v,h=>by
   unfold GV at h
   split at h
   ·rename_i hk
    simp only [Option.some.injEq,Prod.mk.injEq]at h
    obtain⟨rfl,rfl⟩:=h
    have:k=p.1:=by simpa using hk
    simp [this]
   ·obtain⟨h1,h2⟩:=O2 h
    refine⟨by omega,?_⟩
    obtain⟨m,rfl⟩: ∃ m,i=n+1+m:=⟨i - (n+1),by omega⟩
    rw [show n+1+m - n=m+1 by omega,List.getElem?_cons_succ]
    rwa [show n+1+m - (n+1)=m by omega]at h2
theorem TZ {k:Int}: ∀ {kv:List (Int×Int)} {n:Nat},GV kv k n=none→k∉kv.map (·.1)
 | [],_,_=>by simp
 | p::l,n,h=>by
   unfold GV at h
   split at h
   ·cases h
   ·rename_i hk
    have:=TZ h
    simp only [List.map_cons,List.mem_cons,not_or]
    exact⟨by simpa using hk,this⟩
def GE (kv:List (Int×Int)) (k x:Int):List (Int×Int):=match GV kv k 0 with
 | some (i,_)=>TX kv i x
 | none=>kv++[(k,x)]
def St.lookM (st:St) (id:Cz):Option (List (Int×Int)):=match st.so.find? (fun e=>e.id==id)with
 | some ⟨_,none,[.mp kv],false⟩=>some kv
 | _=>none
theorem Wl {st:St} {id:Cz} {kv:List (Int×Int)} (h:st.lookM id=some kv):(⟨id,none,[.mp kv],false⟩:CT)∈st.so:=by
 unfold St.lookM at h
 split at h
 ·rename_i i kv' he
  injection h with h;subst h
  have h1:=List.mem_of_find?_eq_some he
  have h2:=List.find?_some he
  simp only [beq_iff_eq]at h2
  subst h2
  exact h1
 ·cases h
section
variable {F:Fr} {st:St} {a:Act} {w:World} {G:B0}
theorem R.mapAt (h:R F st a w G) {id:Cz} {kv:List (Int×Int)} (hl:st.lookM id=some kv): ∃ b es,G.blk id=some b∧w.heap[b]? =some (.map es kv.length)∧Ov kv es.toList∧(kv.map (·.1)).Nodup :=by
 have hE:=h.store _ (Wl hl)
 simp only [HN]at hE
 obtain⟨b,h1,h2⟩:=hE
 rcases h2 with ⟨kv',es,q1,q2,q3,q4⟩ | ⟨T,cur,q1,q2,q3⟩
 ·injection q1 with q1;injection q1 with q1;subst q1
  exact⟨b,es,h1,q2,q3,q4⟩
 ·simp only [A0,As,and_false,exists_const,false_and]at q3
theorem R.mapped (h:R F st a w G) {id:Cz} {kv kv':List (Int×Int)} (hl:st.lookM id=some kv) {b:Nat} {es es':Array MapEntry} (hb:G.blk id=some b) (hh:w.heap[b]? =some (.map es kv.length)) (h1:Ov kv' es'.toList) (h2:(kv'.map (·.1)).Nodup):
 R F (st.setCs id [.mp kv'] false) a {w with heap:=w.heap.setIfInBounds b (.map es' kv'.length)} G:=by
 have hm:=Wl hl
 obtain⟨hnew,hold⟩:=heap_set (o':= .map es' kv'.length) hh
 have hbl: ∀ k,k ≠ b→(w.heap.setIfInBounds b (.map es' kv'.length))[k]? =w.heap[k]? :=hold
 have hk:La G G w {w with heap:=w.heap.setIfInBounds b (.map es' kv'.length)}:={
  size:=by simp
  block:=fun x hx hw=>hbl x (fun q=>hw ((h.wr x).2 (.inr ⟨id,by rw [q];exact hb⟩)))
  wr:=fun _ _ q=>q
  ty:=fun i x hi _=>by
   by_cases hxb:x=b
   ·subst hxb
    intro cur T fz q
    rw [hh]at q;injection q with q;cases q
   ·exact GD.same (hbl x hxb)}
 exact {
  dfr:=h.dfr,size:=h.size
  slots:=fun i=>Ap.mono hk _ _ (fun _ _=>⟨rfl,rfl⟩) (h.slots i)
  ghosts:=Bc.mono hk _ _ (fun _ _=>⟨rfl,rfl⟩) h.ghosts
  store:=by
   intro e' he'
   simp only [St.setCs,List.mem_map]at he'
   obtain⟨d,hd,rfl⟩:=he'
   split
   ·rename_i hdid
    replace hdid:d.id=id:=by simpa using hdid
    have:d=⟨id,none,[.mp kv],false⟩:=by
     have:=List.pairwise_map.1 h.nodup
     rcases List.mem_iff_getElem.1 hd with ⟨i,hi,hi2⟩
     rcases List.mem_iff_getElem.1 hm with ⟨j,hj,hj2⟩
     rcases Nat.lt_trichotomy i j with q | q | q
     ·exact absurd (by rw [hi2,hj2];exact hdid) (List.pairwise_iff_getElem.1 this i j hi hj q)
     ·subst q;rw [←hi2];exact hj2
     ·exact absurd (by rw [hi2,hj2];exact hdid.symm) (List.pairwise_iff_getElem.1 this j i hj hi q)
    subst this
    simp only [HN]
    exact⟨b,hb, .inl ⟨kv',es',rfl,hnew,h1,h2⟩⟩
   ·rename_i hdid
    replace hdid: ¬d.id=id:=by simpa using hdid
    exact N0 hk (fun _ _=>⟨rfl,rfl⟩) ⟨rfl,rfl⟩ (fun k hk'=>hbl k (fun q=>hdid (h.inj _ _ k hk' (by rw [q];exact hb)))) (h.store d hd)
  pures:=by
   intro e' he'
   simp only [St.setCs,List.mem_map]at he'
   obtain⟨d,hd,rfl⟩:=he'
   split
   ·intro hq;simp at hq
   ·exact h.pures d hd
  nodup:=by
   have:(st.setCs id [.mp kv'] false).so.map (·.id)=st.so.map (·.id):=by
    simp only [St.setCs,List.map_map]
    apply List.map_congr_left
    intro d _
    simp only [Function.comp]
    split<;>rfl
   rw [this];exact h.nodup
  inj:=h.inj
  lt:=fun i k hi=>by simpa using h.lt i k hi
  new:=h.new,wr:=h.wr,avlt:=h.avlt,inv:=h.inv,avold:=h.avold
  os:=h.os,tape:=h.tape,output:=h.output
  hsize:=by simpa using h.hsize
  ext:=fun k hk' ho=>(hbl k (fun q=>by
   rcases h.new id b hb with q2 | q2
   ·omega
   ·exact ho (by rw [q];exact q2))).trans (h.ext k hk' ho)}
end
section
variable {P:Program} {I:World→Prop} {o:Oper} {st:St} {K:St→Prop}
def bO (P:Program) (t:TypeId):Bool:=match P.underlying t with
 | some (.map kt et)=>match P.underlying kt,P.info? et with
   | some (.int .i64),some i=>match i.zero with
     | some (.int .i64 0)=>true
     | _=>false
   | _,_=>false
 | _=>false
theorem T0 {t:TypeId} (h:bO P t=true): ∃ kt et,P.underlying t=some (.map kt et)∧P.underlying kt=some (.int .i64)∧ ∃ i,P.info? et=some i∧i.zero=some (.int .i64 0):=by
 unfold bO at h
 split at h
 ·rename_i kt et h1
  split at h
  ·rename_i i h2 h3
   split at h
   ·rename_i h4
    exact⟨kt,et,h1,h2,i,h3,h4⟩
   ·cases h
  ·cases h
 ·cases h
theorem LW (k:Int):IsKey (.int .i64) (.int .i64 k):=by simp [IsKey]
theorem EB.mkMap {t:TypeId} (d:Nat) (ho:o.op= .makeMap t none) (hd:o.dst=some d)
 (hK:K ((st.new ⟨d::st.pre,none,[.mp []],false⟩).put (some d) (.c (.mref (d::st.pre))))):EB P I o st K:=by
 intro F a w G Q hI hR
 have hrun:(execOp a.eval o).run P w= .ok (.value (.map (some w.heap.size))) (w.alloc (.map #[] 0)):=by
  simp [execOp,ho,Instr.makeMap,newObj]
  rfl
 refine DT hrun ⟨_,GO F G (d::st.pre) (some w.heap.size) none,hK,?_⟩
 rw [hd]
 have hsame:=OQ w (.map #[] 0)
 refine R.put (d:=some d) (hR.set ⟨d::st.pre,none,[.mp []],false⟩ (some w.heap.size) none (Nm _ _) hsame.size (fun b hb _=>hsame.block b hb) (fun b hb _=>hsame.block b (Nat.lt_of_lt_of_le hb hR.hsize)) ?_ (fun q=>by cases q) ?_) ?_
 ·intro b hb;injection hb with hb;subst hb;exact⟨.inl (Nat.le_refl _),by simp [FS]⟩
 ·simp only [HN,CT.kill]
  exact⟨w.heap.size,by simp [GO], .inl ⟨[], #[],by simp [JW,C.men],by simp [FS],by simp [Ov],by simp⟩⟩
 ·simp only [Ap,As]
  exact⟨w.heap.size,by simp [GO],rfl⟩
theorem T1 {kv:List (Int×Int)} {es:Array MapEntry} (h:Ov kv es.toList) (i:Nat):es[i]? =(kv[i]?).map fun p=>TY (p,i):=by
 rw [←Array.getElem?_toList,LV.1 h,List.getElem?_map,List.getElem?_zipIdx]
 cases kv[i]? <;>simp
theorem aj {kv:List (Int×Int)} {es:Array MapEntry} (h:Ov kv es.toList) (k v:Int):Ov (kv++[(k,v)]) (es.push ⟨.int .i64 k, .int .i64 v,kv.length⟩).toList :=by
 rw [LV]at h ⊢
 rw [Array.toList_push,h,List.zipIdx_append,List.map_append]
 simp [TY]
theorem di {kv:List (Int×Int)} {es:Array MapEntry} (h:Ov kv es.toList) (i:Nat) (x:Int):Ov (TX kv i x) (es.modify i fun e=>{e with val:= .int .i64 x}).toList :=by
 rw [LV]
 apply List.ext_getElem?
 intro j
 rw [Array.getElem?_toList,Array.getElem?_modify,T1 h,List.getElem?_map,List.getElem?_zipIdx]
 simp only [TX,List.getElem?_modify]
 by_cases hij:i=j
 ·subst hij
  cases kv[i]? <;>simp [TY]
 ·simp only [if_neg hij]
  cases kv[j]? <;>simp
theorem dj (kv:List (Int×Int)) (i:Nat) (x:Int):(TX kv i x).map (·.1)=kv.map (·.1):=by
 apply List.ext_getElem?
 intro j
 simp only [TX,List.getElem?_map,List.getElem?_modify]
 by_cases hij:i=j
 ·subst hij;cases kv[i]? <;>simp
 ·simp [if_neg hij]
theorem eX (kv:List (Int×Int)) (i:Nat) (x:Int):(TX kv i x).length =kv.length:=by simp [TX]
theorem EB.mapSet {t:TypeId} {m k x:Operand} {id:Cz} {kv:List (Int×Int)} {n z:Int} (ho:o.op= .mapUpdate t m k x) (hd:o.dst=none)
 (hK:K (st.setCs id [.mp (GE kv n z)] false))
 (hm:st.ev m= .c (.mref id):=by kernel_rfl) (hk:st.ev k= .c (.int .i64 n):=by kernel_rfl) (hx:st.ev x= .c (.int .i64 z):=by kernel_rfl) (hl:st.lookM id=some kv:=by kernel_rfl) (ht:bO P t=true:=by kernel_rfl):EB P I o st K:=by
 intro F a w G Q hI hR
 obtain⟨kt,et,t1,t2,i,t3,t4⟩:=T0 ht
 obtain⟨b,es,h1,h2,h3,h4⟩:=hR.mapAt hl
 have hmv:=hR.ev m
 rw [hm]at hmv
 simp only [Ap,As]at hmv
 obtain⟨b',hb',hme⟩:=hmv
 rw [h1]at hb';injection hb' with hb';subst hb'
 have hkv:=hR.ev k
 rw [hk]at hkv
 simp only [Ap,As]at hkv
 have hxv:=hR.ev x
 rw [hx]at hxv
 simp only [Ap,As]at hxv
 have hfn:Instr.findNow (.int .i64) (.int .i64 n) es.toList 0=some ((GV kv n 0).map fun q=>(q.1, .int .i64 q.2)):=by
  rw [LV.1 h3];exact LA n kv 0 0
 unfold GE at hK
 cases hf:GV kv n 0 with
 | none=>
   rw [hf]at hfn
   simp only [hf]at hK
   have hrun:(execOp a.eval o).run P w= .ok .skip {w with heap:=w.heap.setIfInBounds b (.map (es.push ⟨.int .i64 n, .int .i64 z,kv.length⟩) (kv.length+1))}:=by
    simp [execOp,ho,hme,hkv,hxv,Instr.mapUpdate,run_underlying t1,MapKept.run_getObj_map h2,MapKept.run_checkKey t2 (LW n),MapKept.run_findKey t2 hfn,MapKept.run_setObj_map _ h2,Result.andThen]
   have hnk:=TZ hf
   have hR':=hR.mapped (kv':=kv++[(n,z)]) (es':=es.push ⟨.int .i64 n, .int .i64 z,kv.length⟩) hl h1 h2 (aj h3 n z) (by
    rw [List.map_append]
    exact List.nodup_append.2 ⟨h4,by simp,fun x hx y hy=>by simp at hy;subst hy;exact fun q=>hnk (q▸hx)⟩)
   rw [List.length_append]at hR'
   unfold Oper.wp Oper.upon
   rw [hrun]
   exact⟨_,G,hK,by rw [hd];exact hR'⟩
 | some q=>
   obtain⟨j,v⟩:=q
   rw [hf]at hfn
   simp only [hf]at hK
   obtain⟨_,hj⟩:=O2 hf
   rw [Nat.sub_zero]at hj
   have hej:=T1 h3 j
   rw [hj]at hej
   have hmod:es.modify j (fun e=>{e with key:= .int .i64 n,val:= .int .i64 z})=es.modify j (fun e=>{e with val:= .int .i64 z}):=by
    apply Array.ext_getElem?
    intro x
    rw [Array.getElem?_modify,Array.getElem?_modify]
    split
    ·rename_i hx;subst hx
     rw [hej];rfl
    ·rfl
   have hrun:(execOp a.eval o).run P w= .ok .skip {w with heap:=w.heap.setIfInBounds b (.map (es.modify j fun e=>{e with val:= .int .i64 z}) kv.length)}:=by
    simp [execOp,ho,hme,hkv,hxv,Instr.mapUpdate,run_underlying t1,MapKept.run_getObj_map h2,MapKept.run_checkKey t2 (LW n),MapKept.run_findKey t2 hfn,hej,TY,MapKept.run_keyThatStays (LW n),hmod,MapKept.run_setObj_map _ h2,Result.andThen]
   have hR':=hR.mapped (kv':=TX kv j z) (es':=es.modify j fun e=>{e with val:= .int .i64 z}) hl h1 h2 (di h3 j z) (by rw [dj];exact h4)
   rw [eX]at hR'
   unfold Oper.wp Oper.upon
   rw [hrun]
   exact⟨_,G,hK,by rw [hd];exact hR'⟩
theorem EB.mapGet {t:TypeId} {m k:Operand} {id:Cz} {kv:List (Int×Int)} {n:Int} (ho:o.op= .lookup t m k false)
 (hK:K (st.put o.dst (.c (.int .i64 (Cn kv n)))))
 (hm:st.ev m= .c (.mref id):=by kernel_rfl) (hk:st.ev k= .c (.int .i64 n):=by kernel_rfl) (hl:st.lookM id=some kv:=by kernel_rfl) (ht:bO P t=true:=by kernel_rfl):EB P I o st K:=by
 intro F a w G Q hI hR
 obtain⟨kt,et,t1,t2,i,t3,t4⟩:=T0 ht
 obtain⟨b,es,h1,h2,h3,h4⟩:=hR.mapAt hl
 have hmv:=hR.ev m
 rw [hm]at hmv
 simp only [Ap,As]at hmv
 obtain⟨b',hb',hme⟩:=hmv
 rw [h1]at hb';injection hb' with hb';subst hb'
 have hkv:=hR.ev k
 rw [hk]at hkv
 simp only [Ap,As]at hkv
 have hfn:Instr.findNow (.int .i64) (.int .i64 n) es.toList 0=some ((GV kv n 0).map fun q=>(q.1, .int .i64 q.2)):=by
  rw [LV.1 h3];exact LA n kv 0 0
 have hrun:(execOp a.eval o).run P w= .ok (.value (.int .i64 (Cn kv n))) w:=by
  unfold Cn
  cases hf:GV kv n 0 with
  | none=>
    rw [hf]at hfn
    simp [execOp,ho,hme,hkv,Instr.lookup,run_underlying t1,MapKept.run_getObj_map h2,MapKept.run_checkKey t2 (LW n),MapKept.run_findKey t2 hfn,run_zeroValue' t3 t4,Result.andThen]
  | some q=>
    rw [hf]at hfn
    simp [execOp,ho,hme,hkv,Instr.lookup,run_underlying t1,MapKept.run_getObj_map h2,MapKept.run_checkKey t2 (LW n),MapKept.run_findKey t2 hfn,Result.andThen]
 exact DT hrun ⟨_,G,hK,hR.put (by simp only [Ap,As])⟩
end
end Go.PL
namespace Go.PL
open Go Go.RowKit
theorem EB.inlineB {P:Program} {I:World→Prop} {o:Oper} {st:St} {K:St→Prop} {x:Operand} {xs:List Operand} {c:Call} {s:Prop} {vs:List V} {f:FuncId} {cs:List C} {fn:Func} {body:Code} {n:Nat} {rs:List ResultVar} (k:Nat)
 (ho:o.op= .call c) (hcal:c.callee= .value x) (hxs:c.args.toList=xs) (ha:st.args true xs=(s,vs)) (hs:s) (hf:st.ev x= .c (.bmv f cs)) (hent:ent P f=true) (hfn:P.funcs[f]? =some fn) (hb:fn.body=some body) (hn:fn.ntmps=n) (hr:fn.results=rs.toArray)
 (h: ∀ w0 av old gv,Ai P ⟨w0,av,old,I,gv⟩ body (st.enter k (cs.map V.c++vs) n) (bq P rs st.tm.length st.pre o.dst K)):EB P I o st K:=by
 intro F a w G Q hI hR
 have hargs:Bc w G vs (xs.map a.eval):=by
  have:=hR.args (g:=true) rfl (xs:=xs) (by rw [ha];exact hs)
  rw [ha]at this;exact this
 obtain⟨arr,hev,hcs⟩: ∃ arr:Array Value,a.eval x= .func (.func f) arr #[]∧AD w G cs arr.toList:=by
  have hx:=hR.ev x
  rw [hf]at hx
  simpa only [Ap,As] using hx
 have hrun:(execOp a.eval o).run P w= .ok (.enter f (arr++(xs.map a.eval).toArray)) w:=by
  have e:c.args.map a.eval=(xs.map a.eval).toArray :=by apply Array.ext';simp [←hxs]
  simp [execOp,ho,resolve,hcal,hev,Deferred.ofValue,invoke,run_callFunc' hent,e]
 unfold Oper.wp Oper.upon
 rw [hrun]
 simp only
 obtain⟨w0,av,old,I',gv⟩:=F
 simp only at hI;subst hI
 have hall:Bc w G (cs.map V.c++vs) (arr++(xs.map a.eval).toArray).toList :=by
  simpa using J5 (QL hcs) hargs
 refine calls_of_wp hfn hb ?_
 have hR0:=hR.enter k hall fn.ntmps
 rw [hn]at hR0
 rw [hn]
 refine Code.wp_mono (fun e a' w' ⟨st',G',q,hR'⟩=>?_) (h _ _ _ _ _ _ _ hR0)
 have hrs:fn.results.toList=rs:=by rw [hr]
 have fin:(HQ P st' rs).1∧K (st'.back st.tm.length st.pre o.dst (HQ P st' rs).2)→
  a'.defers=[]∧ ∃ v,(results fn a'.tmps).run P w'= .ok v w'∧dP ⟨w0,av,old,I',gv⟩ K (a.put o.dst v) w':=by
  intro ⟨q1,q2⟩
  rw [←hrs]at q1 q2
  obtain⟨v,k1,k2⟩:=Pw hR' (fn:=fn) q1
  refine⟨hR'.dfr,v,k1,_,G',q2,?_⟩
  exact(R.back hR.dfr rfl hR' hR.size.symm st.pre).put k2
 cases e<;>simp only [bq]at q<;>first | exact fin q | exact q.elim
end Go.PL
namespace Go.PL
open Go Go.RowKit
def oh:List V→Nat→List Nat→List V
 | [],_,_=>[]
 | v::vs,_,[]=>v::vs
 | v::vs,i,j::l=>match Nat.beq i j with
   | true=> .undef ::oh vs (i+1) l
   | false=>v::oh vs (i+1) (j::l)
def oj:List V→Nat→List (Nat×V)→List V
 | [],_,_=>[]
 | v::vs,_,[]=>v::vs
 | v::vs,i,(j,x)::l=>match Nat.beq i j with
   | true=>x::oj vs (i+1) l
   | false=>v::oj vs (i+1) ((j,x)::l)
inductive Dn where
 | k (n:Nat)
 | s (n:Nat) (l:List (Nat×C))
 | e (x:CT)
def oO:List C→Nat→List (Nat×C)→List C
 | [],_,_=>[]
 | v::vs,_,[]=>v::vs
 | v::vs,i,(j,x)::l=>match Nat.beq i j with
   | true=>x::oO vs (i+1) l
   | false=>v::oO vs (i+1) ((j,x)::l)
def kz:List CT→Nat→CT
 | [],_=>⟨[],none,[],false⟩
 | e::_,0=>e
 | _::l,n+1=>kz l n
def ol (old:List CT):List Dn→List CT
 | []=>[]
 | .k n::l=>kz old n::ol old l
 | .s n c::l=>(match kz old n with | ⟨i,r,cs,p⟩=>⟨i,r,oO cs 0 c,p⟩)::ol old l
 | .e x::l=>x::ol old l
def u (d:List Nat) (l:List (Nat×V)) (st:St):St:=⟨oj (oh st.tm 0 d) 0 l,st.so,st.gh,st.pre⟩
def uo (d:List Nat) (l:List (Nat×V)) (o:List Dn) (st:St):St:=⟨oj (oh st.tm 0 d) 0 l,ol st.so o,st.gh,st.pre⟩
def nA:Nat→List Stp
 | 0=>[]
 | n+1=> .a ::nA n
section
variable {P:Program} {F:Fr} {st:St} {id:Nat} {l:List Oper} {c:Code} {Q:Exit→St→Prop} {cs:List Prop} {K:St→Prop}
theorem Gg (ss:List Stp) (f:St→St) (hl:BA cs) (h:Ai P F c (f st) Q) (hr:RP (GT P F.I false l.toArray l ss st) (f st)=some (cs,f st):=by kernel_rfl):Ai P F (.seq (.region id l.toArray false) c) st Q:=Ai.rg _ hr hl h
theorem Gq (h1:P.follows .mixedOrders =true) (ss:List Stp) (f:St→St) (hl:BA cs) (h:Ai P F c (f st) Q) (h2:Region.lexB .any l.toArray=true:=by kernel_rfl) (hr:RP (GT P F.I true l.toArray l ss st) (f st)=some (cs,f st):=by kernel_rfl):Ai P F (.seq (.region id l.toArray true) c) st Q:=Rq h1 ss (f st) hl h h2 hr
theorem Ge (ss:List Stp) (f:St→St) (hl:BA cs) (h:Q .normal (f st)) (hr:GT P F.I false l.toArray l ss st=some (cs,f st):=by kernel_rfl):Ai P F (.region id l.toArray false) st Q:=Ai.reg hr hl h
theorem Gf (h1:P.follows .mixedOrders =true) (ss:List Stp) (f:St→St) (hl:BA cs) (h:Q .normal (f st)) (h2:Region.lexB .any l.toArray=true:=by kernel_rfl) (hr:GT P F.I true l.toArray l ss st=some (cs,f st):=by kernel_rfl):Ai P F (.region id l.toArray true) st Q:=Ai.regQ h1 h2 hr hl h
theorem Gp {I:World→Prop} {ops:Array Oper} (n:Nat) (ss:List Stp) (f:St→St) (hc:BA cs) (hK:Cm P I ops (l.drop n) (f st) K) (h:GT P I false ops (l.take n) ss st=some (cs,f st):=by kernel_rfl):Cm P I ops l st K:=Run.part n (f st) h hc hK
theorem Gw {I:World→Prop} {ops:Array Oper} (ss:List Stp) (f:St→St) (hc:BA cs) (hK:K (f st)) (h:GT P I false ops l ss st=some (cs,f st):=by kernel_rfl):Cm P I ops l st K:=Run.whole (f st) h hc hK
theorem Gs (f:St→St) (h:Ai P F c (f st) Q) (hl:OD st (f st)=some (f st):=by kernel_rfl):Ai P F c st Q:=Ai.less (D4.t hl) h
theorem Gj {X:Type} (S:X→St→St) (Φ:X→Prop) {x y:Code} {Q:Exit→St→Prop} (hx:Ai P F x st (B4 (fun st'=> ∃ v,Φ v∧Wk st' (S v st)) Q)) (hy: ∀ v,Φ v→Ai P F y (S v st) Q):Ai P F (.seq x y) st Q:=Sj (fun v=>S v st) Φ hx hy
theorem Gi {σ ρ:Type} {B:σ→Option (σ⊕ρ)} (S:σ→St→St) {N:Nat} {s0:σ} {o:ρ} {c:Code} {Q:Exit→St→Prop} (hi:PL.iter B N s0=some o) (hl:Wk st (S s0 st))
 (hb: ∀ s z,B s=some z→(∀ o',z= .inr o'→o'=o)→Ai P F c (S s st) (B4 (fun st'=> ∃ s',z= .inl s'∧Wk st' (S s' st)) Q)):Ai P F (.loop c) st Q:=It (fun v=>S v st) hi hl hb
theorem hS {x y:Code} {Q:Exit→St→Prop} (h:Ai P F x st (B4 (fun st'=>Ai P F y st' Q) Q)):Ai P F (.seq x y) st Q:=Ai.seq h
theorem hK (h:Q .normal st):Ai P F .skip st Q:=Ai.skip h
theorem hT (h:K st):Ai P F .skip st (B4 K Q):=Ai.skip h
theorem hR (h:Q .ret st):Ai P F .ret st Q:=Ai.ret h
theorem hE {id:Nat} (h:Q (.exit id) st):Ai P F (.exit id) st Q:=Ai.exit h
theorem hB {id:Nat} {c:Code} {Q:Exit→St→Prop} (h:Ai P F c st (BL id Q)):Ai P F (.block id c) st Q:=Ai.block h
theorem hO {id:Nat} {ops:Array Oper} {Q:Exit→St→Prop} (h:Cm P F.I ops ops.toList st (Q .normal)):Ai P F (.region id ops false) st Q:=Ai.region h
theorem Te {i:Nat} (h:Q (.exit i) st):B4 K Q (.exit i) st:=h
theorem qN {i:Nat} (h:Q .normal st):BL i Q .normal st:=h
theorem qR {i:Nat} (h:Q .ret st):BL i Q .ret st:=h
theorem qX {i:Nat} (h:Q .normal st):BL i Q (.exit i) st:=BL.out h
theorem qY {i j:Nat} (h:Q (.exit j) st) (hj:(j==i)=false:=by rfl):BL i Q (.exit j) st:=BL.on hj h
end
section
variable {α:Type} {e x:α}
theorem kB {e b:Bool} (h:some e=some b):vB e=vB b:=congrArg vB (sI h)
end
section
variable {α β γ δ ε:Type} {r:ε}
theorem JX {o:Option α} {f:α→Option β} {g:α→β→Option ε} (h:(o.bind fun x=>(f x).bind (g x))=some r): ∃ x,o=some x∧ ∃ y,f x=some y∧g x y=some r:=by
 obtain⟨x,hx,h⟩:=bS h
 obtain⟨y,hy,h⟩:=bS h
 exact⟨x,hx,y,hy,h⟩
theorem M9 {o:Option α} {f:α→Option β} {g:α→β→Option γ} {k:α→β→γ→Option ε} (h:(o.bind fun x=>(f x).bind fun y=>(g x y).bind (k x y))=some r): ∃ x,o=some x∧ ∃ y,f x=some y∧ ∃ z,g x y=some z∧k x y z=some r:=by
 obtain⟨x,hx,h⟩:=bS h
 obtain⟨y,hy,z,hz,h⟩:=JX h
 exact⟨x,hx,y,hy,z,hz,h⟩
theorem Ij {o:Option α} {f:α→Option β} {g:α→β→Option γ} {k:α→β→γ→Option δ} {m:α→β→γ→δ→Option ε} (h:(o.bind fun x=>(f x).bind fun y=>(g x y).bind fun z=>(k x y z).bind (m x y z))=some r): ∃ x,o=some x∧ ∃ y,f x=some y∧ ∃ z,g x y=some z∧ ∃ w,k x y z=some w∧m x y z w=some r:=by
 obtain⟨x,hx,h⟩:=bS h
 obtain⟨y,hy,z,hz,w,hw,h⟩:=M9 h
 exact⟨x,hx,y,hy,z,hz,w,hw,h⟩
end
section
variable {P:Program} {F:Fr} {st:St} {K:St→Prop}
theorem iC {cc:Operand} {x y:Code} {Q:Exit→St→Prop} {β:Type} {b:Bool} {X Y:Option β} {r:β} (h:(if b=true then X else Y)=some r) (h1:X=some r→Ai P F x st Q) (h2:Y=some r→Ai P F y st Q) (hc:st.ev cc= .c (.bool b):=by kernel_rfl):Ai P F (.cond cc x y) st Q:=
 Ai.ifB b hc (fun hb=>h1 (iT h hb)) (fun hb=>h2 (iF h hb))
theorem nR {rs:List ResultVar} {m:Nat} {pre:Cz} {d:Option Nat} (v:V) (hK:K (st.back m pre d v)) (h:R5 P st rs=some v:=by kernel_rfl):bq P rs m pre d K .ret st:=bq.ret h hK
theorem nN {rs:List ResultVar} {m:Nat} {pre:Cz} {d:Option Nat} (v:V) (hK:K (st.back m pre d v)) (h:R5 P st rs=some v:=by kernel_rfl):bq P rs m pre d K .normal st:=bq.normal h hK
def om:Nat→Prop
 | 0=>True
 | n+1=>True∧om n
theorem kA: ∀ n,om n
 | 0=>trivial
 | n+1=>⟨trivial,kA n⟩
theorem Ei {I:World→Prop} {o:Oper} {x:Operand} {xs:List Operand} {c:Call} {f:FuncId} {fn:Func} {body:Code} {n:Nat} (k:Nat) (vs:List V) (cs:List C)
 (hfn:P.funcs[f]? =some fn) (hn:fn.ntmps=n) (rs:List ResultVar) (hb:fn.body=some body) (ho:o.op= .call c) (hcal:c.callee= .value x) (hxs:c.args.toList=xs)
 (h: ∀ w0 av old gv,Ai P ⟨w0,av,old,I,gv⟩ body (st.enter k (vs++cs.map V.c) n) (bq P rs st.tm.length st.pre o.dst K))
 (ha:st.args true xs=(om vs.length,vs):=by kernel_rfl) (hf:W5 st x=some (f,cs):=by kernel_rfl) (hent:ent P f=true:=by kernel_rfl) (hr:fn.results=rs.toArray:=by kernel_rfl):EB P I o st K:=
 EB.inline k ho hcal hxs ha (kA _) hf hent hfn hb hn hr h
theorem js {I:World→Prop} {o:Oper} {x:Operand} {xs:List Operand} {c:Call} {f:FuncId} {fn:Func} {body:Code} {n:Nat} (k:Nat) (vs:List V) (cs:List C)
 (hfn:P.funcs[f]? =some fn) (hn:fn.ntmps=n) (rs:List ResultVar) (hb:fn.body=some body) (ho:o.op= .call c) (hcal:c.callee= .value x) (hxs:c.args.toList=xs)
 (h: ∀ w0 av old gv,Ai P ⟨w0,av,old,I,gv⟩ body (st.enter k (cs.map V.c++vs) n) (bq P rs st.tm.length st.pre o.dst K))
 (ha:st.args true xs=(om vs.length,vs):=by kernel_rfl) (hf:st.ev x= .c (.bmv f cs):=by kernel_rfl) (hent:ent P f=true:=by kernel_rfl) (hr:fn.results=rs.toArray:=by kernel_rfl):EB P I o st K:=
 EB.inlineB k ho hcal hxs ha (kA _) hf hent hfn hb hn hr h
theorem Nj {I:World→Prop} {ops:Array Oper} {X:Type} (S:X→St→St) (Φ:X→Prop) {l rest:List Oper} {o:Oper} (hl:l=o::rest) (hg:o.guard=none) (h:EB P I o st (fun st'=> ∃ v,Φ v∧D4 st' (S v st))) (hK: ∀ v,Φ v→Cm P I ops rest (S v st) K):Cm P I ops l st K:=Run.inlJ (fun v=>S v st) Φ hl hg h hK
theorem Ng {I:World→Prop} {ops:Array Oper} {X:Type} (S:X→St→St) (Φ:X→Prop) {l rest:List Oper} {o:Oper} {j:Nat} {want g:Bool} (d:Nat) (hl:l=o::rest) (hg:o.guard=some (j,want)) (hd:o.dst=some d)
 (hT:g=true→EB P I o st (fun st'=> ∃ v,Φ v∧D4 (st'.put (some d) (.g g (st'.get d))) (S v st)))
 (hF:g=false→ ∃ v x,Φ v∧D4 (st.put (some d) (.g g x)) (S v st))
 (hK: ∀ v,Φ v→Cm P I ops rest (S v st) K) (hgd:J3 st ops j want=some g:=by kernel_rfl):Cm P I ops l st K:=Run.inlgJ (fun v=>S v st) Φ d hl hg hd hT hF hK hgd
theorem rI {I:World→Prop} {ops:Array Oper} {l rest:List Oper} {o:Oper} (hl:l=o::rest) (hg:o.guard=none) (h:EB P I o st (fun st'=>Cm P I ops rest st' K)):Cm P I ops l st K:=Run.inl hl hg h
end
theorem Ah.bo {P:Program} {I:World→Prop} (hsta:QK I) {f:FuncId} {fn:Func} {c:Code} {args:List V} {Q:V→Prop} {n:Nat} (hf:P.funcs[f]? =some fn) (hb:fn.body=some c) (hn:fn.ntmps=n) (rs:List ResultVar)
 (h: ∀ w0 av old gv,Ai P ⟨w0,av,old,I,gv⟩ c (St.start args n) (fun e st'=>(e= .normal ∨e= .ret)∧(HP P st' rs).1∧(HP P st' rs).2.pure =true∧Q (HP P st' rs).2))
 (hent:PL.ent P f=true:=by kernel_rfl) (hr:fn.results=rs.toArray:=by kernel_rfl):Ah P I f args Q:=Ah.body hsta hent hf hb hn hr rfl h
end Go.PL
namespace Go.PL
open Go Go.RowKit
def T4 (I:World→Prop) (g:Nat) (tab:List (List UInt8)):Prop:= ∀ w,I w→ ∃ T fz,w.heap[g]? =some (.cells (tab.map fun s=>Value.string ⟨s.toArray⟩).toArray T fz)
theorem kC {i:Int} {n:Nat} (h:0≤i∧i<((n:Nat):Int)):i.toNat<n:=by omega
theorem R.I {F:Fr} {st:St} {a:Act} {w:World} {G:B0} (h:R F st a w G):F.I w:=h.inv w h.hsize h.ext
theorem RQ {I:World→Prop} {g:Nat} {tab:List (List UInt8)} (h:T4 I g tab) {w:World} (hw:I w) {i:Nat} (hi:i<tab.length):w.cell? ⟨g,i,none⟩=some (.string ⟨(tab.getD i []).toArray⟩):=by
 obtain⟨T,fz,hh⟩:=h w hw
 simp [World.cell?,hh,List.getD_eq_getElem?_getD,List.getElem?_eq_getElem hi]
section
variable {P:Program} {I:World→Prop} {o:Oper} {st:St} {K:St→Prop}
theorem EB.gAddr {t:TypeId} {x:Operand} {g n:Nat} {k:IntKind} {i:Int} {E:TypeId} (ho:o.op= .indexAddr t (.global g) x) (hi:0≤i∧i<n) (hK:K (st.put o.dst (.c (.gptr g i.toNat))))
 (hx:st.ev x= .c (.int k i):=by kernel_rfl) (ht:Lb P t=some (n,E,1):=by kernel_rfl):EB P I o st K:=by
 intro F a w G Q hI hR
 have hxv:=hR.ev x
 rw [hx]at hxv
 simp only [Ap,As]at hxv
 have hrun:(execOp a.eval o).run P w= .ok (.value (.pointer (some ⟨g,i.toNat,none⟩))) w:=by
  have:=KE ht g 0 k i hi.1 hi.2 w
  rw [Nat.zero_add,Nat.mul_one]at this
  have hgl:a.eval (.global g)= .pointer (some ⟨g,0,none⟩):=rfl
  simp [execOp,ho,hxv,hgl,this]
 exact DT hrun ⟨_,G,hK,hR.put (by simp only [Ap,As])⟩
theorem EB.gLoad {t:TypeId} {x:Operand} {g off:Nat} {tab:List (List UInt8)} (ho:o.op= .load t x) (hg:T4 I g tab) (hoff:off<tab.length) (hK:K (st.put o.dst (.c (.str (tab.getD off [])))))
 (hx:st.ev x= .c (.gptr g off):=by kernel_rfl) (ht:SW P t=some (false,1):=by kernel_rfl):EB P I o st K:=by
 intro F a w G Q hI hR
 have hxv:=hR.ev x
 rw [hx]at hxv
 simp only [Ap,As]at hxv
 obtain⟨d,i,hu,hd,_⟩:=IL ht
 have hc:=RQ hg (hI▸hR.I) hoff
 have hrun:(execOp a.eval o).run P w= .ok (.value (.string ⟨(tab.getD off []).toArray⟩)) w:=by
  simp [execOp,ho,hxv,Ox hu hd hc]
 exact DT hrun ⟨_,G,hK,hR.put (by simp only [Ap,As])⟩
theorem Wm {w:World} {G:B0}: ∀ tab:List (List UInt8),AD w G (tab.map C.str) (tab.map fun s=>Value.string ⟨s.toArray⟩)
 | []=>by simp [AD]
 | s::l=>by simp only [List.map_cons,AD,As,true_and];exact Wm l
theorem EB.gAll {t:TypeId} {g:Nat} {tab:List (List UInt8)} (ho:o.op= .load t (.global g)) (hg:T4 I g tab) (hK:K (st.put o.dst (.agg (tab.map C.str))))
 (ht:SW P t=some (true,tab.length):=by kernel_rfl):EB P I o st K:=by
 intro F a w G Q hI hR
 obtain⟨d,i,hu,hd,hi,hsz⟩:=IL ht
 have hw:I w:=hI▸hR.I
 have hrun:(execOp a.eval o).run P w= .ok (.value (.agg (tab.map fun s=>Value.string ⟨s.toArray⟩).toArray)) w:=by
  have:=run_loadAt_mid (P:=P) w g 0 t (tab.map fun s=>Value.string ⟨s.toArray⟩) d (fun j v hj=>by
   have hjl:j<tab.length:=by
    rcases Nat.lt_or_ge j tab.length with q | q
    ·exact q
    ·simp [List.getElem?_eq_none (show (tab.map fun s=>Value.string ⟨s.toArray⟩).length ≤j by simpa using q)]at hj
   rw [Nat.zero_add,RQ hg hw hjl]
   rw [List.getElem?_map,List.getElem?_eq_getElem hjl]at hj
   simpa [List.getD_eq_getElem?_getD,List.getElem?_eq_getElem hjl] using hj) hu hd (by simp [hi,hsz])
  have hgl:a.eval (.global g)= .pointer (some ⟨g,0,none⟩):=rfl
  simp [execOp,ho,hgl,this]
 exact DT hrun ⟨_,G,hK,hR.put (by simp only [Ap];exact⟨_,rfl,by simpa using Wm tab⟩)⟩
theorem EB.frz (id:Cz) {s:Stp} {l:List Prop} {st1:St} (hl:BA l) (hK:K (st1.freeze id)) (hk:(match Dx o.op with
 | .ef =>true
 | _=>false)=true:=by kernel_rfl) (h:gx P st s o=some (l,st1):=by kernel_rfl):EB P I o st K:=by
 intro F a w G Q hI hR
 obtain⟨h1,h2⟩:=QO h hl
 have hs:dQ P F.I o st (fun s'=>s'=st1):=by
  unfold dQ
  refine .inr ?_
  split at hk
  ·rename_i he
   rw [he]
   exact⟨h1,h2⟩
  ·cases hk
 refine Oper.wp_mono (fun a' w' ⟨s',G',hs',hR'⟩=>?_) (N3 hR hs)
 subst hs'
 obtain⟨G2,q⟩:=Wk.frz _ id F a' w' G' hR'
 exact⟨_,G2,hK,q⟩
end
end Go.PL
namespace Go.PL
open Go
set_option linter.all false
def LB (k:Nat) (l:List (List UInt8)):Prop:=l.length≤k∧ ∀ y∈l,y.length≤600
theorem LB.nil {k:Nat}:LB k []:=⟨by simp,by simp⟩
theorem LB.le {k m:Nat} {l:List (List UInt8)} (h:LB k l) (hk:k≤m):LB m l:=⟨by have:=h.1;omega,h.2⟩
theorem LB.add {k:Nat} {l:List (List UInt8)} {x:List UInt8} (h:LB k l) (hx:x.length≤600):LB (k+1) (l++[x]):=by
 refine⟨by have:=h.1;simp;omega,fun y hy=>?_⟩
 rw [List.mem_append,List.mem_singleton]at hy
 rcases hy with hy | rfl
 ·exact h.2 y hy
 ·exact hx
def dV (b:Nat):Option (List UInt8)→Bool
 | some w=>Nat.ble w.length b
 | none=>false
theorem mF {b:Nat} {o:Option (List UInt8)} (h:dV b o=true):W o (fun r=>r.length≤b):=by
 cases o with
 | none=>cases h
 | some w=>exact⟨w,rfl,Nat.le_of_ble_eq_true h⟩
theorem dk {n b:Nat} {f:Int→Option (List UInt8)} (h:((List.range n).all fun i=>dV b (f (i:Int)))=true) {i:Nat} (hi:i<n):W (f (i:Int)) (fun r=>r.length≤b):=
 mF (List.all_eq_true.1 h i (List.mem_range.2 hi))
theorem ak {n b:Nat} {f:Int→Option (List UInt8)} (h:((List.range n).all fun i=>dV b (f (i:Int)))=true) {i:Int} (h0:0≤i) (hi:i<n):W (f i) (fun r=>r.length≤b):=by
 have:=dk h (i:=i.toNat) (by omega)
 rwa [Int.toNat_of_nonneg h0]at this
section
variable {α β:Type} {Q:β→Prop} {k:Nat} {l:List (List UInt8)} {x:List UInt8}
theorem eY {J:List (List UInt8)→Option β} (h:LB k l) (hx:x.length≤600) (hJ: ∀ l',LB (k+1) l'→W (J l') Q) (hk:k≤1000:=by omega):W ((app 16 l ([x]:List (List UInt8))).bind J) Q:=by
 have h1:=h.1
 refine W.bd (W.app (b:=16) (l:=l) (m:=[x]) (by simp;omega) (by unfold maxLen;simp;omega)) (fun e he=>?_)
 subst he
 exact hJ _ (h.add hx)
theorem al {c:Bool} {J:List (List UInt8)→Option β} (h:LB k l) (hx:x.length≤600) (hJ: ∀ l',LB (k+1) l'→W (J l') Q) (hk:k≤1000:=by omega):W (if c=true then(app 16 l ([x]:List (List UInt8))).bind J else J l) Q:=
 W.if (fun _=>eY h hx hJ hk) (fun _=>hJ _ (h.le (by omega)))
theorem kD {c:Bool} {J:List (List UInt8)→Option β} (h:LB k l) (hx:x.length≤600) (hJ: ∀ l',LB (k+1) l'→W (J l') Q) (hk:k≤1000:=by omega):W (if c=true then J l else(app 16 l ([x]:List (List UInt8))).bind J) Q:=
 W.if (fun _=>hJ _ (h.le (by omega))) (fun _=>eY h hx hJ hk)
theorem I6 {a b:List UInt8} {f:List UInt8→Option β} (m:Nat) (h:a.length+b.length≤m) (hf: ∀ s,s.length=a.length+b.length→W (f s) Q) (hm:m≤100000000000:=by omega):W ((cat a b).bind f) Q:=
 W.bd (W.cat (by omega)) (fun s hs=>hf s hs.2)
def kE (i k:Nat) (r:(Int×List (List UInt8))⊕List (List UInt8)):Prop:= ∃ l',r= .inl ((i:Int)+1,l')∧LB (k+1) l'
theorem ZJ {i:Nat} {l':List (List UInt8)} (h:LB (k+1) l') (hi:i≤100000:=by omega):W (some (.inl (Ab ((i:Int)+1),l'))) (kE i k):=
 ⟨_,rfl,l',by rw [BC (by omega) (by omega)],h⟩
theorem eZ {B:Int→List (List UInt8)→Option ((Int×List (List UInt8))⊕List (List UInt8))} {f:List (List UInt8)→Option β} (n:Nat) (hl:LB k l)
 (he: ∀ l,B (n:Int) l=some (.inr l)) (hs: ∀ (i m:Nat) l,i<n→m≤k+n→LB m l→W (B (i:Int) l) (kE i m)) (hf: ∀ l',LB (k+n) l'→W (f l') Q) (hn:n≤1000:=by omega):
 W ((iter (fun(v:Int×List (List UInt8))=>B v.1 v.2) FU (0,l)).bind f) Q:=by
 have key: ∀ (j i N:Nat) (l:List (List UInt8)),i+j=n→j<N→LB (k+i) l→ ∃ l',LB (k+n) l'∧iter (fun(v:Int×List (List UInt8))=>B v.1 v.2) N ((i:Int),l)=some l':=by
  intro j
  induction j with
  | zero=>
    intro i N l hi hN hl
    obtain⟨N,rfl⟩: ∃ M,N=M+1:=⟨N - 1,by omega⟩
    obtain rfl:i=n:=by omega
    exact⟨l,hl,DU (he l)⟩
  | succ j ih=>
    intro i N l hi hN hl
    obtain⟨N,rfl⟩: ∃ M,N=M+1:=⟨N - 1,by omega⟩
    obtain⟨r,h1,l',rfl,h2⟩:=hs i (k+i) l (by omega) (by omega) hl
    obtain⟨l2,h3,h4⟩:=ih (i+1) N l' (by omega) (by omega) h2
    refine⟨l2,h3,?_⟩
    rw [Eh h1]
    exact h4
 obtain⟨l',h1,h2⟩:=key n 0 FU l (by omega) (by unfold FU;omega) hl
 have h2':iter (fun(v:Int×List (List UInt8))=>B v.1 v.2) FU (0,l)=some l':=h2
 rw [h2']
 exact hf l' h1
theorem pC {B:Int→Int→Option ((Int×Int)⊕Int)} {f:Int→Option β} {a:Int} {g:Int→Int} (n:Int) (hn:n≤1000)
 (hB: ∀ m k,B m k=if decide (k<n)=true then some (.inl (g m,Ab (k+1)))else some (.inr m)) (hf: ∀ m,W (f m) Q):W ((iter (fun(v:Int×Int)=>B v.1 v.2) FU (a,0)).bind f) Q:=by
 refine W.it (fun v=>0≤v.2∧(v.2≤n∨v.2≤0)) (fun v=>(n - v.2).toNat) ⟨by simp,by simp⟩ (by dsimp only;omega) (fun v hv=>?_)
 obtain⟨m,k⟩:=v
 dsimp only at hv ⊢
 rw [hB]
 refine W.if (fun h=>?_) (fun h=>W.ex (hf m))
 have h:=of_decide_eq_true h
 have:=BC (x:=k+1) (by omega) (by omega)
 exact W.nx (by dsimp only;omega) (by dsimp only;omega)
end
theorem T5 (sep:List UInt8) (n:Nat): ∀ {l:List (List UInt8)},(∀ y∈l,y.length≤n)→(Lib.join l sep).length ≤l.length*(n+sep.length)
 | [],_=>by simp [Lib.join_nil]
 | [a],h=>by
   have:=h a (by simp)
   rw [Lib.join_one];simp;omega
 | a::b::l,h=>by
   have h1:=h a (by simp)
   have h2:=T5 sep n (l:=b::l) (fun y hy=>h y (by simp [hy]))
   have e:Lib.join (a::b::l) sep=a++(sep++Lib.join (b::l) sep):=by simp [Lib.join_cons,Lib.joinTail]
   rw [e,List.length_append,List.length_append,List.length_cons]
   rw [Nat.add_mul]
   omega
end Go.PL
namespace Go.PL
open Go
theorem O3 {a b:Bool} (h:a=true) (k:b=true):(a&&b)=true:=by rw [h,k];rfl
theorem dl {P:Program} {f:FuncId} {fn:Func} {s:ChangeSpec} {c:OpenClaim} (h0:(c.wf (OpenSpec.ofChange s))=true) (h1:(laidOutB P)=true) (h2:(mapsRowed P)=true) (h3:(fn.params.all (P.readableRec ·))=true) (h4:(namedTie P c.named s.vars)=true) (h5:((c.stops==[]))=true) (h6:((P.stops==[]))=true) (h7:((c.knobs==[]))=true) (h8:((P.stopKnobs==[]))=true) (h9:((c.inPlace==P.inPlace f))=true) (h10:((c.unfollowed==P.unfollowed f))=true) (h11:((c.recurses==P.recurses f))=true) (h12:((c.named==P.varsNamed f))=true) (h13:((c.maps==(fn.params.toList++s.plain.varTypes P).any (P.mapsRec ·)))=true) (h14:((c.ifaces==(fn.params.toList++s.plain.varTypes P).any (P.ifacesRec ·)))=true) (h15:((c.mapsOut==P.mapsAmong fn.resultTypes.toList))=true) (h16:((c.loops==(fn.params.toList++s.plain.varTypes P).any (P.loopsFrom ·)))=true) (h17:((c.wideKeys==(fn.params.toList++s.plain.varTypes P++fn.resultTypes.toList).any (P.wideKeysFrom ·)))=true) (h18:(s.vars.all (P.varReadable ·))=true) (h19:(fn.resultTypes.all (fun t=>P.readableRec t&&decide (t<P.types.size)))=true) (h20:((c.ifacesOut==fn.resultTypes.toList.any (P.ifacesRec ·)))=true) (h21:((c.loopsOut==fn.resultTypes.toList.any (P.loopsFrom ·)))=true) (h22:((c.plainKeys==P.plainKeys))=true) (h23:(c.shortTexts.isNone)=true) (h24:(P.stopsHeard)=true) (h25:(P.mayEnter)=true) (h26:((c.lifted==P.liftsFinal))=true) (h27:((P.make==some c.make))=true) (h28:(c.domain.isEmpty&&(c.kinds==[]))=true) (h29:((c.pinned==c.pinnedBy))=true) (h30:((c.veiled==(fn.params.toList++s.plain.varTypes P++fn.resultTypes.toList).any (P.veiledRec ·)))=true) (h31:(c.veiledFits P fn.params.toList (fn.params.toList++s.plain.varTypes P++fn.resultTypes.toList))=true):joinedFacts P f fn s c=true:=by
 obtain⟨d1,d2⟩:=(Bool.and_eq_true _ _▸h28:_∧_)
 unfold joinedFacts
 rw [if_pos d1]
 exact(O3 (O3 (O3 (O3 (O3 (O3 (O3 (O3 (O3 (O3 (O3 (O3 (O3 (O3 (O3 (O3 (O3 (O3 (O3 (O3 (O3 (O3 (O3 (O3 (O3 (O3 (O3 (O3 (O3 (O3 (O3 h0 h1) h2) h3) h4) h5) h6) h7) h8) h9) h10) h11) h12) h13) h14) h15) h16) h17) h18) h19) h20) h21) h22) h23) h24) h25) h26) h27) d2) h29) h30) h31)
end Go.PL
namespace Go.PL
open Go
section
variable {H:Type} {enc:TypeId×Value→H}
theorem gZ {a:Assume} {C:Checked} {os:Os} {f:FuncId} {fn:Func} {s:ChangeSpec} {conds:List PathCond} {apart fresh handsOn again:Bool} {X:World→Array Value→Prop}
 (hX: ∀ (w w':World) (args:Array Value),w.heap=w'.heap→X w args→X w' args)
 (own:ownKnob C.prog.godebug=none) (started:os.Started) (noInit:C.prog.inits.idxOf? f=none) (hfn:C.prog.funcs[f]? =some fn)
 (witness: ∃ (w:World) (tape:Tape) (i:Input),w.os=os∧(w.forCall tape i).Shaped C.prog∧i.vars=[]∧Input.okWide C.prog (w.forCall tape i) .any w.heap.size f i∧
  ((s.pre enc C.prog fn conds apart (w.forCall tape i).memory i.args∧X (w.forCall tape i).memory i.args)∧sizedMet enc C.prog fn (OpenSpec.ofChange s) apart (w.forCall tape i).memory i.args)∧a.holds C.prog (lone (Frame.enter C.prog f i.args .normal) [] (w.forCall tape i)))
 (contract: ∀ (W:World) (base:Nat) (args:Array Value) (ds gs:List (DataW H)) (before:List MemPlace),
  (∀ (j:Nat) t v,fn.params[j]? =some t→args[j]? =some v→Value.okWide C.prog W .any base t v)→
  DataW.Whole enc C.prog fn.params.toList s.vars apart W args.toList ds gs before→
  conds.all (PathCond.test C.prog ⟨fn.params.toList,ds,s.plain.varTypes C.prog,gs⟩)=true→
  (DataW.weightsEach C.prog (fn.params.toList++s.plain.varTypes C.prog) (ds++gs)).all (· ≤reachBytes)=true→X W args→W.ShapedOpen C.prog→
  a.holds C.prog (lone (Frame.enter C.prog f args .normal) [] W)→
  Calls C.prog f args W fun e W'=> ∃ v,e= .returned v∧s.post enc C.prog fn apart fresh handsOn again W args v W'):
 ReturnsInHanded a C os f .any (fun w args=>(s.pre enc C.prog fn conds apart w args∧X w args)∧sizedMet enc C.prog fn (OpenSpec.ofChange s) apart w args) (s.post enc C.prog fn apart fresh handsOn again):=by
 refine returnsInHanded_of_calls own started noInit witness ?_
 intro w tape i _ hsh _ hok hpre hholds
 obtain⟨_,_,_,fn',hfn',_,_,_,_,hval⟩:=hok
 have e:fn'=fn:=Option.some.inj (hfn'.symm.trans hfn)
 subst e
 obtain⟨⟨⟨ds,gs,before,hw,hc⟩,hx⟩,hz⟩:=hpre
 have hw':=DataW.Whole.of_heap (w':=w.forCall tape i) (by rfl) hw
 refine(contract (w.forCall tape i) w.heap.size i.args ds gs before hval hw' hc (hz.weights hw) (hX _ _ _ (by rfl) hx) hsh hholds).mono fun e W' ⟨v,he,hp⟩=>?_
 subst he
 exact ChangeSpec.post_blind hp
def Xf {H:Type} (ss:List (List UInt8)):DataW H:= .agg (ss.map fun s=> .lit (.string s))
theorem Vj {H:Type} {enc:TypeId×Value→H} {P:Program} {w:World} {base:Nat} {sp:Nat→Bool} {held:Bool} {fuel:Nat} {t e:TypeId} {n:Nat} {cs:List Value} {ss:List (List UInt8)} {p:List MemPlace}
 (ht:P.underlying t=some (.array n e)) (he:P.underlying e=some .string) (hce:P.cellsOf e=1) (hct:P.cellsOf t=n)
 (h:DataW.trod enc P w base sp held fuel t cs=some (Xf ss,p)):cs=ss.map fun s=>Value.string ⟨s.toArray⟩:=by
 cases fuel with
 | zero=>simp [DataW.trod]at h
 | succ fuel=>
   simp only [DataW.trod,ht,hce,hct,Nat.mul_one]at h
   split at h
   ·rename_i hl
    obtain⟨xs,hm,hx⟩:=Option.map_eq_some_iff.1 h
    have hxs:xs.map (·.1)=ss.map fun s=>(DataW.lit (.string s):DataW H):=by
     have:=congrArg Prod.fst hx
     simpa [Xf] using this
    have hxl:xs.length=n:=by simpa using Lib.mapM_length hm
    have hzl:ss.length=n:=by
     have:=congrArg List.length hxs
     simp at this
     omega
    apply List.ext_getElem?
    intro i
    by_cases hi:i<n
    ·obtain⟨b,hb,hf⟩:=Lib.mapM_at hm i i (by simp [hi])
     obtain⟨z,hc,rfl,_⟩:=DataW.trod_string he hf
     have h1:cs[i]? =some (.string z):=by
      have:=congrArg (·[0]?) hc
      simpa [List.getElem?_take,List.getElem?_drop] using this
     have h2:(xs.map (·.1))[i]? =some (DataW.lit (.string z.data.toList):DataW H):=by simp [hb]
     rw [hxs]at h2
     simp only [List.getElem?_map,Option.map_eq_some_iff,DataW.lit.injEq,Lit.string.injEq]at h2
     obtain⟨z',hz',hz2⟩:=h2
     rw [h1,List.getElem?_map,hz',hz2]
     rfl
    ·rw [List.getElem?_eq_none (by omega),List.getElem?_eq_none (by simp;omega)]
   ·cases h
theorem PI {P:Program} {W:World} {name:String} {ss:List (List UInt8)} {rest:List (String×DataW Unit)} {g:Nat} {t e:TypeId} {n:Nat}
 (hg:P.globalNamed name=some g) (hty:(P.globals[g]?).map (·.type)=some t) (ht:P.underlying t=some (.array n e)) (he:P.underlying e=some .string) (hce:P.cellsOf e=1) (hct:P.cellsOf t=n)
 (h:laidMet P ((name,Xf ss)::rest) W): ∃ T fz,W.heap[g]? =some (.cells (ss.map fun s=>Value.string ⟨s.toArray⟩).toArray T fz):=by
 obtain⟨ps,⟨g',t',cs,fuel,p,q,hg',ht',hvar,hd,_,_⟩,_⟩:=h
 obtain rfl:=Option.some.inj (hg.symm.trans hg')
 obtain rfl:=Option.some.inj (hty.symm.trans ht')
 have hc:=Vj ht he hce hct hd
 simp only [World.var?,hg,Option.bind_some]at hvar
 split at hvar
 ·rename_i c T fz hh
  injection hvar with hv
  subst hv
  refine⟨T,fz,?_⟩
  rw [hh, ←hc]
 ·cases hvar
end
end Go.PL
