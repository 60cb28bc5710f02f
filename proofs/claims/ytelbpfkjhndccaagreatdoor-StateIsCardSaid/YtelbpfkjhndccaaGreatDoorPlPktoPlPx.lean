/- The pure logic: PlPk, PlPm, PlPn, PlPo, PlPp, PlPr, PlPt, PlPv, PlPu, PlPw, PlPd, PlPx. -/
import Derived.Test.YtelbpfkjhndccaaGreatDoorPlOtoPlPj
import Derived.Scope
import Derived.Lib.AppendStr
import Derived.Lib.Builder
import Derived.Lib.UnsafeStr
import Derived.MapKept
import Derived.Lib.Join
import Derived.JoinedOf
import Derived.Handed
import Derived.LaidSub
import Derived.Lib.LaidTab
namespace Go.PL
open Go Go.RowKit
section
variable {P:Program} {F:Fr} {st:St}
def L5 (Q:Exit→St→Prop):Exit→St→Prop
 | .goto _,_=>False
 | e,st=>Q e st
theorem L5.normal {Q:Exit→St→Prop} (h:Q .normal st):L5 Q .normal st:=h
theorem L5.ret {Q:Exit→St→Prop} (h:Q .ret st):L5 Q .ret st:=h
theorem L5.exit {Q:Exit→St→Prop} {i:Nat} (h:Q (.exit i) st):L5 Q (.exit i) st:=h
theorem Ak.label {l:Nat} {Q:Exit→St→Prop} (h:Q .normal st):Ak P F (.label l) st Q:=fun _ _ G hR=>wp_label ⟨st,G,h,hR⟩
theorem Ak.scope {c:Code} {Q:Exit→St→Prop} (h:Ak P F c st (L5 Q)):Ak P F (.scope c) st Q:=
 fun a w G hR=>wp_scope_straight (Code.wp_mono (fun e a' w' ⟨st',G',q,hR'⟩=>by
  cases e<;>simp only [Exit.noGoto,L5]at q ⊢ <;>first
   | exact q.elim
   | exact⟨st',G',q,hR'⟩) (h a w G hR))
end
end Go.PL
namespace Go.PL
open Go Go.RowKit
theorem E0.cc {P:Program} {I:World→Prop} {o:Oper} {st:St} {K:St→Prop} {f:FuncId} {x:Operand} {T:TypeId} {id:CI} {c1:C} (hk:DH o.op= .call f [x]) (hent:ent P f=true)
 (hused: ∀ (b:Nat) (w:World),w.cell? ⟨b,0,none⟩=some (.pointer (some ⟨b,0,none⟩))→Calls P f #[.pointer (some ⟨b,0,none⟩)] w fun e w'=>e= .returned (.tuple #[])∧w'=w)
 (hfresh: ∀ (b:Nat) (w:World),w.cell? ⟨b,0,none⟩=some (.pointer none)→w.shape? b=some (T,2)→w.frozen? ⟨b,0,none⟩=false→Calls P f #[.pointer (some ⟨b,0,none⟩)] w fun e w'=>e= .returned (.tuple #[])∧w'=w.setCell ⟨b,0,none⟩ (.pointer (some ⟨b,0,none⟩)))
 (hK:K (st.put o.dst (.tup []))) (hx:st.ev x= .c (.ptr id 0):=by kernel_rfl) (hl:st.look id=some ⟨id,none,[.bld id T,c1],false⟩:=by kernel_rfl):E0 P I o st K:=by
 intro F a w G Q hI hR
 have hr:=So (a:=a) hk hent w
 unfold Oper.wp Oper.upon
 rw [hr]
 have hxv:=hR.ev x
 rw [hx]at hxv
 simp only [Ap,Ax]at hxv
 obtain⟨b,hb,hxb⟩:=hxv
 obtain⟨hm, -⟩:=DL hl
 have hE:=hR.store _ hm
 obtain⟨b',q1,hbx⟩:=(by simpa only [I4] using hE: ∃ b,G.blk id=some b∧au w G [C.bld id T,c1] b)
 obtain⟨T',cur,q2,q3,q4⟩:=hbx.cells rfl
 rw [hb]at q1;injection q1 with q1;subst q1
 have q4':=q4
 simp only [A9,Ax]at q4
 obtain⟨⟨v,hv,b2,hb2,⟨cur2,fz,hh⟩,hn⟩,_⟩:=q4
 rw [hb]at hb2;injection hb2 with hb2;subst hb2
 rw [q2]at hh
 injection hh with hh
 injection hh with h1 h2 h3
 subst h2
 have tupR: ∀ w',Ap w' G (.tup []) (.tuple #[]):=fun w'=>by simp [Ap,Bf]
 have harg:([x].map a.eval).toArray = #[.pointer (some ⟨b,0,none⟩)]:=by simp [hxb]
 rw [harg]
 rcases hn with rfl | rfl
 ·have hsh:w.shape? b=some (T',2):=by
   simp only [World.shape?,q2]
   have:cur.size=2:=q3
   rw [this]
  have hfz:w.frozen? ⟨b,0,none⟩=false:=by simp [World.frozen?,q2]
  refine(hfresh b w hv hsh hfz).mono fun e w' ⟨he,hw⟩=>?_
  subst he
  refine⟨_,G,hK,?_⟩
  have hrl:AH w G [C.bld id T'] [.pointer (some ⟨b,0,none⟩)]:=by
   simp only [AH,Ax,and_true]
   exact⟨b,hb,⟨cur,(0,0),q2⟩, .inr rfl⟩
  obtain⟨cur3,T3,k1,k2,k3⟩:=hR.stored hl hb (off:=0) (xs:=[C.bld id T']) hrl (by simp)
  rw [q2]at k1;injection k1 with k1;injection k1 with k1 k1b _;subst k1 k1b
  have hst:st.setCs id (([C.bld id T',c1]).take 0++[C.bld id T']++([C.bld id T',c1]).drop (0+[C.bld id T'].length)) (Bw [C.bld id T'])=st:=by
   have hn:=hR.nodup
   obtain⟨tm,so,gh,pre⟩:=st
   simp only [St.setCs,St.mk.injEq,true_and,and_true]
   conv=>rhs;rw [←List.map_id so]
   refine List.map_congr_left fun d hd=>?_
   split
   ·rename_i hdid
    have hdid:d.id=id:=by simpa using hdid
    have hde:d=⟨id,none,[C.bld id T',c1],false⟩:=by
     have:=List.pairwise_map.1 hn
     rcases List.mem_iff_getElem.1 hd with ⟨i,hi,hi2⟩
     rcases List.mem_iff_getElem.1 hm with ⟨j,hj,hj2⟩
     rcases Nat.lt_trichotomy i j with q | q | q
     ·exact absurd (by rw [hi2,hj2];exact hdid) (List.pairwise_iff_getElem.1 this i j hi hj q)
     ·subst q;rw [←hi2];exact hj2
     ·exact absurd (by rw [hi2,hj2];exact hdid.symm) (List.pairwise_iff_getElem.1 this j i hj hi q)
    rw [hde];rfl
   ·rfl
  rw [hst]at k3
  have hww:w'=w.setRow b (cur.toList.take 0++[Value.pointer (some ⟨b,0,none⟩)]++cur.toList.drop (0+[Value.pointer (some ⟨b,0,none⟩)].length)).toArray :=by
   rw [hw,setCell_eq_setRow w b 0 cur T' (0,0) _ q2]
   congr 1
   have h2:cur.size=2:=q3
   apply Array.ext'
   rw [Array.toList_setIfInBounds]
   obtain⟨l⟩:=cur
   match l,h2 with
   | [u1,u2],_=>rfl
  rw [hww]
  exact k3.put (tupR _)
 ·refine(hused b w hv).mono fun e w' ⟨he,hw⟩=>?_
  subst he hw
  exact⟨_,G,hK,hR.put (tupR _)⟩
end Go.PL
namespace Go.PL
open Go Go.RowKit Go.Lib
def lm (s:List UInt8):List C:=s.map fun b=> .int .u8 b.toNat
end Go.PL
namespace Go.PL
open Go Go.RowKit
section
variable {P:Program} {F:Fr} {st:St} {ops:Array Oper}
end
end Go.PL
namespace Go.PL
open Go Go.RowKit
theorem Yr {w:World} {G:B4}: ∀ {s:List UInt8} {vs:List Value},AH w G (lm s) vs→vs=Lib.byteCells s
 | [],[],_=>rfl
 | [],_::_,h=>by simp [lm,AH]at h
 | _::_,[],h=>by simp [lm,AH]at h
 | b::s,v::vs,h=>by
   simp only [lm,List.map_cons,AH,Ax]at h
   have:=Yr (s:=s) (vs:=vs) h.2
   rw [h.1,this];rfl
theorem R.builder {F:Fr} {st:St} {a:Act} {w:World} {G:B4} (hR:R F st a w G) (hold: ∀ b, ¬F.old b) {id:CI} {T E:TypeId} {c1:C} {s:List UInt8} {b:Nat} (hb:G.blk id=some b)
 (hl:st.look id=some ⟨id,none,[.bld id T,c1],false⟩)
 (h:(∃ r pu,c1= .osl r∧r ≠ id∧st.look r=some ⟨r,some (E,1,s.length),lm s,pu⟩∧s ≠ [])∨(c1= .nils ∧s=[])):Lib.IsBuilder T E F.w0.heap.size b (Lib.byteCells s) w:=by
 obtain⟨hm, -⟩:=DL hl
 have hE:=hR.store _ hm
 obtain⟨b',q1,hbx⟩:=(by simpa only [I4] using hE: ∃ b,G.blk id=some b∧au w G [C.bld id T,c1] b)
 obtain⟨T',cur,q2,q3,q4⟩:=hbx.cells rfl
 rw [hb]at q1;injection q1 with q1;subst q1
 obtain⟨us,r1,r2⟩:=q4.list
 have hpre:=N7 q2 r2
 obtain⟨v0,v1,rfl⟩: ∃ v0 v1,us=[v0,v1]:=by
  have:=r1.length
  match us,this with
  | [x,y],_=>exact⟨x,y,rfl⟩
 have hcur:cur= #[v0,v1]:=by
  apply Array.ext'
  have h2:cur.toList.length=2:=by simpa using q3
  have h3:=congrArg List.length hpre
  simp only [List.length_append,List.length_drop,List.length_cons,List.length_nil]at h3
  rw [←hpre]
  have:cur.toList.drop [v0,v1].length =[]:=List.length_eq_zero_iff.1 (by rw [List.length_drop,h2];rfl)
  rw [this];rfl
 subst hcur
 simp only [AH,Ax,and_true]at r1
 obtain⟨⟨b2,hb2,⟨cur2,fz,hh⟩,hn⟩,hc1⟩:=r1
 rw [hb]at hb2;injection hb2 with hb2;subst hb2
 rw [q2]at hh
 injection hh with hh
 injection hh with _ hT _
 subst hT
 have hbB:F.w0.heap.size≤b:=(hR.new _ _ hb).resolve_right (hold b)
 have key:w.ownsRow F.w0.heap.size E 1 v1 (Lib.byteCells s).length (Lib.byteCells s)∧v1.ownBlock ≠ some b:=by
  rcases h with ⟨r,pu,rfl,hrid,hlr,hs⟩ | ⟨rfl,rfl⟩
  ·simp only [Ax]at hc1
   obtain⟨hmr, -⟩:=DL hlr
   obtain⟨v,xs,k1,k2,k3,k4⟩:=NK rfl (hR.store _ hmr)
   have hv:v=v1:=by
    have:=hc1.1
    rw [k1]at this
    injection this
   subst hv
   rcases k4 with ⟨k4,k5⟩ | ⟨p,_,k5,_⟩
   ·have hxs:=Yr k3
    subst hxs
    have hbl:(Lib.byteCells s).length =s.length:=Lib.byteCells_length s
    rw [hbl]
    refine⟨⟨k4.1,?_⟩,fun q=>hrid (hR.inj _ _ b (by rw [←k5];exact q) hb)⟩
    rcases k4.2 with q | ⟨g,cap,cur,q,z1,z2,z3,z4,z5,z6⟩
    ·exact .inl q
    ·refine .inr ⟨g,cap,cur,q,?_,z2,z3,z4,z5,z6⟩
     have hg:G.blk r=some g:=by
      have k5':v.ownBlock=G.blk r:=k5
      rw [←k5',q];rfl
     exact(hR.new _ _ hg).resolve_right (hold g)
   ·exact absurd (List.length_eq_zero_iff.1 k5) hs
  ·simp only [Ax]at hc1
   subst hc1
   exact⟨World.ownsRow_nil w _ E 1,by simp [Value.ownBlock]⟩
 rcases hn with rfl | rfl
 ·exact .inl ⟨hbB,v1,q2,key.1,key.2⟩
 ·exact .inr ⟨hbB,v1,q2,key.1,key.2⟩
end Go.PL
namespace Go.PL
open Go Go.RowKit Go.MapKept
def HP:List (Int×Int)→Int→Nat→Option (Nat×Int)
 | [],_,_=>none
 | p::l,k,i=>if k==p.1 then some (i,p.2)else HP l k (i+1)
def Cv (kv:List (Int×Int)) (k:Int):Int:=match HP kv k 0 with
 | some (_,v)=>v
 | none=>0
def qO (kv:List (Int×Int)) (k:Int):List (Int×Int):=match HP kv k 0 with
 | some _=>kv
 | none=>kv++[(k,0)]
def Wc (kv:List (Int×Int)) (i:Nat) (x:Int):List (Int×Int):=kv.modify i fun p=>(p.1,x)
def Wd (p:(Int×Int)×Nat):MapEntry:=⟨.int .i64 p.1.1, .int .i64 p.1.2,p.2⟩
theorem OC {kv:List (Int×Int)} {es:List MapEntry}:Rl kv es↔es=kv.zipIdx.map Wd:=Iff.rfl
theorem N8 {kk:IntKind} (k:Int): ∀ (kv:List (Int×Int)) (n i:Nat),Instr.findNow (.int kk) (.int .i64 k) ((kv.zipIdx n).map Wd) i=some ((HP kv k i).map fun q=>(q.1, .int .i64 q.2))
 | [],_,_=>rfl
 | p::l,n,i=>by
   have ih:=N8 (kk:=kk) k l (n+1) (i+1)
   simp only [List.zipIdx_cons,List.map_cons,Instr.findNow,Wd,Instr.sameNow,if_true,HP]at ih ⊢
   cases h:(k==p.1)
   ·simpa using ih
   ·simp
theorem RQ {k:Int}: ∀ {kv:List (Int×Int)} {n i:Nat} {v:Int},HP kv k n=some (i,v)→n≤i∧kv[i - n]? =some (k,v)
 | [],_,_,_,h=>by simp [HP]at h
 | p::l,n,i,v,h=>by
   unfold HP at h
   split at h
   ·rename_i hk
    simp only [Option.some.injEq,Prod.mk.injEq]at h
    obtain⟨rfl,rfl⟩:=h
    have:k=p.1:=by simpa using hk
    simp [this]
   ·obtain⟨h1,h2⟩:=RQ h
    refine⟨by omega,?_⟩
    obtain⟨m,rfl⟩: ∃ m,i=n+1+m:=⟨i - (n+1),by omega⟩
    rw [show n+1+m - n=m+1 by omega,List.getElem?_cons_succ]
    rwa [show n+1+m - (n+1)=m by omega]at h2
theorem We {k:Int}: ∀ {kv:List (Int×Int)} {n:Nat},HP kv k n=none→k∉kv.map (·.1)
 | [],_,_=>by simp
 | p::l,n,h=>by
   unfold HP at h
   split at h
   ·cases h
   ·rename_i hk
    have:=We h
    simp only [List.map_cons,List.mem_cons,not_or]
    exact⟨by simpa using hk,this⟩
def HC (kv:List (Int×Int)) (k x:Int):List (Int×Int):=match HP kv k 0 with
 | some (i,_)=>Wc kv i x
 | none=>kv++[(k,x)]
def St.lookM (st:St) (id:CI):Option (List (Int×Int)):=match st.so.find? (fun e=>e.id==id)with
 | some ⟨_,none,[.mp kv],false⟩=>some kv
 | _=>none
theorem Ys {st:St} {id:CI} {kv:List (Int×Int)} (h:st.lookM id=some kv):(⟨id,none,[.mp kv],false⟩:C3)∈st.so:=by
 unfold St.lookM at h
 split at h
 ·rename_i i kv' he
  injection h with h;subst h
  have h1:=List.mem_of_find?_eq_some he
  have h2:=List.find?_some he
  simp only [beq_iff_eq]at h2
  subst h2
  exact h1
 ·cases h
section
variable {F:Fr} {st:St} {a:Act} {w:World} {G:B4}
theorem R.mapAt (h:R F st a w G) {id:CI} {kv:List (Int×Int)} (hl:st.lookM id=some kv): ∃ b es,G.blk id=some b∧w.heap[b]? =some (.map es kv.length)∧Rl kv es.toList∧(kv.map (·.1)).Nodup :=by
 have hE:=h.store _ (Ys hl)
 simp only [I4]at hE
 obtain⟨b,h1,h2⟩:=hE
 rcases h2 with ⟨kv',es,q1,q2,q3,q4⟩ | ⟨T,cur,q1,q2,q3⟩
 ·injection q1 with q1;injection q1 with q1;subst q1
  exact⟨b,es,h1,q2,q3,q4⟩
 ·simp only [A9,Ax,and_false,exists_const,false_and]at q3
theorem R.mapped (h:R F st a w G) {id:CI} {kv kv':List (Int×Int)} (hl:st.lookM id=some kv) {b:Nat} {es es':Array MapEntry} (hb:G.blk id=some b) (hh:w.heap[b]? =some (.map es kv.length)) (h1:Rl kv' es'.toList) (h2:(kv'.map (·.1)).Nodup):
 R F (st.setCs id [.mp kv'] false) a {w with heap:=w.heap.setIfInBounds b (.map es' kv'.length)} G:=by
 have hm:=Ys hl
 obtain⟨hnew,hold⟩:=heap_set (o':= .map es' kv'.length) hh
 have hbl: ∀ k,k ≠ b→(w.heap.setIfInBounds b (.map es' kv'.length))[k]? =w.heap[k]? :=hold
 have hk:NG G G w {w with heap:=w.heap.setIfInBounds b (.map es' kv'.length)}:={
  size:=by simp
  block:=fun x hx hw=>hbl x (fun q=>hw ((h.wr x).2 (.inr ⟨id,by rw [q];exact hb⟩)))
  wr:=fun _ _ q=>q
  ty:=fun i x hi _=>by
   by_cases hxb:x=b
   ·subst hxb
    intro cur T fz q
    rw [hh]at q;injection q with q;cases q
   ·exact HB.same (hbl x hxb)}
 exact {
  dfr:=h.dfr,size:=h.size
  slots:=fun i=>Ap.mono hk _ _ (fun _ _=>⟨rfl,rfl⟩) (h.slots i)
  ghosts:=Bf.mono hk _ _ (fun _ _=>⟨rfl,rfl⟩) h.ghosts
  store:=by
   intro e' he'
   simp only [St.setCs,List.mem_map]at he'
   obtain⟨d,hd,rfl⟩:=he'
   split
   ·rename_i hdid
    replace hdid:d.id=id:=by simpa using hdid
    have:d=⟨id,none,[.mp kv],false⟩:=by
     have:=List.pairwise_map.1 h.nodup
     rcases List.mem_iff_getElem.1 hd with ⟨i,hi,hi2⟩
     rcases List.mem_iff_getElem.1 hm with ⟨j,hj,hj2⟩
     rcases Nat.lt_trichotomy i j with q | q | q
     ·exact absurd (by rw [hi2,hj2];exact hdid) (List.pairwise_iff_getElem.1 this i j hi hj q)
     ·subst q;rw [←hi2];exact hj2
     ·exact absurd (by rw [hi2,hj2];exact hdid.symm) (List.pairwise_iff_getElem.1 this j i hj hi q)
    subst this
    simp only [I4]
    exact⟨b,hb, .inl ⟨kv',es',rfl,hnew,h1,h2⟩⟩
   ·rename_i hdid
    replace hdid: ¬d.id=id:=by simpa using hdid
    exact QT hk (fun _ _=>⟨rfl,rfl⟩) ⟨rfl,rfl⟩ (fun k hk'=>hbl k (fun q=>hdid (h.inj _ _ k hk' (by rw [q];exact hb)))) (h.store d hd)
  pures:=by
   intro e' he'
   simp only [St.setCs,List.mem_map]at he'
   obtain⟨d,hd,rfl⟩:=he'
   split
   ·intro hq;simp at hq
   ·exact h.pures d hd
  nodup:=by
   have:(st.setCs id [.mp kv'] false).so.map (·.id)=st.so.map (·.id):=by
    simp only [St.setCs,List.map_map]
    apply List.map_congr_left
    intro d _
    simp only [Function.comp]
    split<;>rfl
   rw [this];exact h.nodup
  inj:=h.inj
  lt:=fun i k hi=>by simpa using h.lt i k hi
  new:=h.new,wr:=h.wr,avlt:=h.avlt,inv:=h.inv,avold:=h.avold
  os:=h.os,tape:=h.tape,output:=h.output
  hsize:=by simpa using h.hsize
  ext:=fun k hk' ho=>(hbl k (fun q=>by
   rcases h.new id b hb with q2 | q2
   ·omega
   ·exact ho (by rw [q];exact q2))).trans (h.ext k hk' ho)}
end
section
variable {P:Program} {I:World→Prop} {o:Oper} {st:St} {K:St→Prop}
def gW (P:Program) (t:TypeId):Bool:=match P.underlying t with
 | some (.map kt et)=>match P.underlying kt,P.info? et with
   | some (.int .i64),some i=>match i.zero with
     | some (.int .i64 0)=>true
     | _=>false
   | _,_=>false
 | _=>false
theorem Wf {t:TypeId} (h:gW P t=true): ∃ kt et,P.underlying t=some (.map kt et)∧P.underlying kt=some (.int .i64)∧ ∃ i,P.info? et=some i∧i.zero=some (.int .i64 0):=by
 unfold gW at h
 split at h
 ·rename_i kt et h1
  split at h
  ·rename_i i h2 h3
   split at h
   ·rename_i h4
    exact⟨kt,et,h1,h2,i,h3,h4⟩
   ·cases h
  ·cases h
 ·cases h
theorem OD (k:Int):IsKey (.int .i64) (.int .i64 k):=by simp [IsKey]
theorem E0.mkMap {t:TypeId} (d:Nat) (ho:o.op= .makeMap t none) (hd:o.dst=some d)
 (hK:K ((st.new ⟨d::st.pre,none,[.mp []],false⟩).put (some d) (.c (.mref (d::st.pre))))):E0 P I o st K:=by
 intro F a w G Q hI hR
 have hrun:(execOp a.eval o).run P w= .ok (.value (.map (some w.heap.size))) (w.alloc (.map #[] 0)):=by
  simp [execOp,ho,Instr.makeMap,newObj]
  rfl
 refine D5 hrun ⟨_,HK F G (d::st.pre) (some w.heap.size) none,hK,?_⟩
 rw [hd]
 have hsame:=RH w (.map #[] 0)
 refine R.put (d:=some d) (hR.set ⟨d::st.pre,none,[.mp []],false⟩ (some w.heap.size) none (PY _ _) hsame.size (fun b hb _=>hsame.block b hb) (fun b hb _=>hsame.block b (Nat.lt_of_lt_of_le hb hR.hsize)) ?_ (fun q=>by cases q) ?_) ?_
 ·intro b hb;injection hb with hb;subst hb;exact⟨.inl (Nat.le_refl _),by simp [GK]⟩
 ·simp only [I4,C3.kill]
  exact⟨w.heap.size,by simp [HK], .inl ⟨[], #[],by simp [Mj,C.men],by simp [GK],by simp [Rl],by simp⟩⟩
 ·simp only [Ap,Ax]
  exact⟨w.heap.size,by simp [HK],rfl⟩
theorem Wg {kv:List (Int×Int)} {es:Array MapEntry} (h:Rl kv es.toList) (i:Nat):es[i]? =(kv[i]?).map fun p=>Wd (p,i):=by
 rw [←Array.getElem?_toList,OC.1 h,List.getElem?_map,List.getElem?_zipIdx]
 cases kv[i]? <;>simp
theorem fb {kv:List (Int×Int)} {es:Array MapEntry} (h:Rl kv es.toList) (k v:Int):Rl (kv++[(k,v)]) (es.push ⟨.int .i64 k, .int .i64 v,kv.length⟩).toList :=by
 rw [OC]at h ⊢
 rw [Array.toList_push,h,List.zipIdx_append,List.map_append]
 simp [Wd]
theorem js {kv:List (Int×Int)} {es:Array MapEntry} (h:Rl kv es.toList) (i:Nat) (x:Int):Rl (Wc kv i x) (es.modify i fun e=>{e with val:= .int .i64 x}).toList :=by
 rw [OC]
 apply List.ext_getElem?
 intro j
 rw [Array.getElem?_toList,Array.getElem?_modify,Wg h,List.getElem?_map,List.getElem?_zipIdx]
 simp only [Wc,List.getElem?_modify]
 by_cases hij:i=j
 ·subst hij
  cases kv[i]? <;>simp [Wd]
 ·simp only [if_neg hij]
  cases kv[j]? <;>simp
theorem jt (kv:List (Int×Int)) (i:Nat) (x:Int):(Wc kv i x).map (·.1)=kv.map (·.1):=by
 apply List.ext_getElem?
 intro j
 simp only [Wc,List.getElem?_map,List.getElem?_modify]
 by_cases hij:i=j
 ·subst hij;cases kv[i]? <;>simp
 ·simp [if_neg hij]
theorem ln (kv:List (Int×Int)) (i:Nat) (x:Int):(Wc kv i x).length =kv.length:=by simp [Wc]
theorem E0.mapSet {t:TypeId} {m k x:Operand} {id:CI} {kv:List (Int×Int)} {n z:Int} (ho:o.op= .mapUpdate t m k x) (hd:o.dst=none)
 (hK:K (st.setCs id [.mp (HC kv n z)] false))
 (hm:st.ev m= .c (.mref id):=by kernel_rfl) (hk:st.ev k= .c (.int .i64 n):=by kernel_rfl) (hx:st.ev x= .c (.int .i64 z):=by kernel_rfl) (hl:st.lookM id=some kv:=by kernel_rfl) (ht:gW P t=true:=by kernel_rfl):E0 P I o st K:=by
 intro F a w G Q hI hR
 obtain⟨kt,et,t1,t2,i,t3,t4⟩:=Wf ht
 obtain⟨b,es,h1,h2,h3,h4⟩:=hR.mapAt hl
 have hmv:=hR.ev m
 rw [hm]at hmv
 simp only [Ap,Ax]at hmv
 obtain⟨b',hb',hme⟩:=hmv
 rw [h1]at hb';injection hb' with hb';subst hb'
 have hkv:=hR.ev k
 rw [hk]at hkv
 simp only [Ap,Ax]at hkv
 have hxv:=hR.ev x
 rw [hx]at hxv
 simp only [Ap,Ax]at hxv
 have hfn:Instr.findNow (.int .i64) (.int .i64 n) es.toList 0=some ((HP kv n 0).map fun q=>(q.1, .int .i64 q.2)):=by
  rw [OC.1 h3];exact N8 n kv 0 0
 unfold HC at hK
 cases hf:HP kv n 0 with
 | none=>
   rw [hf]at hfn
   simp only [hf]at hK
   have hrun:(execOp a.eval o).run P w= .ok .skip {w with heap:=w.heap.setIfInBounds b (.map (es.push ⟨.int .i64 n, .int .i64 z,kv.length⟩) (kv.length+1))}:=by
    simp [execOp,ho,hme,hkv,hxv,Instr.mapUpdate,run_underlying t1,MapKept.run_getObj_map h2,MapKept.run_checkKey t2 (OD n),MapKept.run_findKey t2 hfn,MapKept.run_setObj_map _ h2,Result.andThen]
   have hnk:=We hf
   have hR':=hR.mapped (kv':=kv++[(n,z)]) (es':=es.push ⟨.int .i64 n, .int .i64 z,kv.length⟩) hl h1 h2 (fb h3 n z) (by
    rw [List.map_append]
    exact List.nodup_append.2 ⟨h4,by simp,fun x hx y hy=>by simp at hy;subst hy;exact fun q=>hnk (q▸hx)⟩)
   rw [List.length_append]at hR'
   unfold Oper.wp Oper.upon
   rw [hrun]
   exact⟨_,G,hK,by rw [hd];exact hR'⟩
 | some q=>
   obtain⟨j,v⟩:=q
   rw [hf]at hfn
   simp only [hf]at hK
   obtain⟨_,hj⟩:=RQ hf
   rw [Nat.sub_zero]at hj
   have hej:=Wg h3 j
   rw [hj]at hej
   have hmod:es.modify j (fun e=>{e with key:= .int .i64 n,val:= .int .i64 z})=es.modify j (fun e=>{e with val:= .int .i64 z}):=by
    apply Array.ext_getElem?
    intro x
    rw [Array.getElem?_modify,Array.getElem?_modify]
    split
    ·rename_i hx;subst hx
     rw [hej];rfl
    ·rfl
   have hrun:(execOp a.eval o).run P w= .ok .skip {w with heap:=w.heap.setIfInBounds b (.map (es.modify j fun e=>{e with val:= .int .i64 z}) kv.length)}:=by
    simp [execOp,ho,hme,hkv,hxv,Instr.mapUpdate,run_underlying t1,MapKept.run_getObj_map h2,MapKept.run_checkKey t2 (OD n),MapKept.run_findKey t2 hfn,hej,Wd,MapKept.run_keyThatStays (OD n),hmod,MapKept.run_setObj_map _ h2,Result.andThen]
   have hR':=hR.mapped (kv':=Wc kv j z) (es':=es.modify j fun e=>{e with val:= .int .i64 z}) hl h1 h2 (js h3 j z) (by rw [jt];exact h4)
   rw [ln]at hR'
   unfold Oper.wp Oper.upon
   rw [hrun]
   exact⟨_,G,hK,by rw [hd];exact hR'⟩
theorem E0.mapGet {t:TypeId} {m k:Operand} {id:CI} {kv:List (Int×Int)} {n:Int} (ho:o.op= .lookup t m k false)
 (hK:K (st.put o.dst (.c (.int .i64 (Cv kv n)))))
 (hm:st.ev m= .c (.mref id):=by kernel_rfl) (hk:st.ev k= .c (.int .i64 n):=by kernel_rfl) (hl:st.lookM id=some kv:=by kernel_rfl) (ht:gW P t=true:=by kernel_rfl):E0 P I o st K:=by
 intro F a w G Q hI hR
 obtain⟨kt,et,t1,t2,i,t3,t4⟩:=Wf ht
 obtain⟨b,es,h1,h2,h3,h4⟩:=hR.mapAt hl
 have hmv:=hR.ev m
 rw [hm]at hmv
 simp only [Ap,Ax]at hmv
 obtain⟨b',hb',hme⟩:=hmv
 rw [h1]at hb';injection hb' with hb';subst hb'
 have hkv:=hR.ev k
 rw [hk]at hkv
 simp only [Ap,Ax]at hkv
 have hfn:Instr.findNow (.int .i64) (.int .i64 n) es.toList 0=some ((HP kv n 0).map fun q=>(q.1, .int .i64 q.2)):=by
  rw [OC.1 h3];exact N8 n kv 0 0
 have hrun:(execOp a.eval o).run P w= .ok (.value (.int .i64 (Cv kv n))) w:=by
  unfold Cv
  cases hf:HP kv n 0 with
  | none=>
    rw [hf]at hfn
    simp [execOp,ho,hme,hkv,Instr.lookup,run_underlying t1,MapKept.run_getObj_map h2,MapKept.run_checkKey t2 (OD n),MapKept.run_findKey t2 hfn,run_zeroValue' t3 t4,Result.andThen]
  | some q=>
    rw [hf]at hfn
    simp [execOp,ho,hme,hkv,Instr.lookup,run_underlying t1,MapKept.run_getObj_map h2,MapKept.run_checkKey t2 (OD n),MapKept.run_findKey t2 hfn,Result.andThen]
 exact D5 hrun ⟨_,G,hK,hR.put (by simp only [Ap,Ax])⟩
end
end Go.PL
namespace Go.PL
open Go Go.RowKit
theorem E0.inlineB {P:Program} {I:World→Prop} {o:Oper} {st:St} {K:St→Prop} {x:Operand} {xs:List Operand} {c:Call} {s:Prop} {vs:List V} {f:FuncId} {cs:List C} {fn:Func} {body:Code} {n:Nat} {rs:List ResultVar} (k:Nat)
 (ho:o.op= .call c) (hcal:c.callee= .value x) (hxs:c.args.toList=xs) (ha:st.args true xs=(s,vs)) (hs:s) (hf:st.ev x= .c (.bmv f cs)) (hent:ent P f=true) (hfn:P.funcs[f]? =some fn) (hb:fn.body=some body) (hn:fn.ntmps=n) (hr:fn.results=rs.toArray)
 (h: ∀ w0 av old gv,Ak P ⟨w0,av,old,I,gv⟩ body (st.enter k (cs.map V.c++vs) n) (gI P rs st.tm.length st.pre o.dst K)):E0 P I o st K:=by
 intro F a w G Q hI hR
 have hargs:Bf w G vs (xs.map a.eval):=by
  have:=hR.args (g:=true) rfl (xs:=xs) (by rw [ha];exact hs)
  rw [ha]at this;exact this
 obtain⟨arr,hev,hcs⟩: ∃ arr:Array Value,a.eval x= .func (.func f) arr #[]∧AH w G cs arr.toList:=by
  have hx:=hR.ev x
  rw [hf]at hx
  simpa only [Ap,Ax] using hx
 have hrun:(execOp a.eval o).run P w= .ok (.enter f (arr++(xs.map a.eval).toArray)) w:=by
  have e:c.args.map a.eval=(xs.map a.eval).toArray :=by apply Array.ext';simp [←hxs]
  simp [execOp,ho,resolve,hcal,hev,Deferred.ofValue,invoke,run_callFunc' hent,e]
 unfold Oper.wp Oper.upon
 rw [hrun]
 simp only
 obtain⟨w0,av,old,I',gv⟩:=F
 simp only at hI;subst hI
 have hall:Bf w G (cs.map V.c++vs) (arr++(xs.map a.eval).toArray).toList :=by
  simpa using Mo (Tm hcs) hargs
 refine calls_of_wp hfn hb ?_
 have hR0:=hR.enter k hall fn.ntmps
 rw [hn]at hR0
 rw [hn]
 refine Code.wp_mono (fun e a' w' ⟨st',G',q,hR'⟩=>?_) (h _ _ _ _ _ _ _ hR0)
 have hrs:fn.results.toList=rs:=by rw [hr]
 have fin:(I7 P st' rs).1∧K (st'.back st.tm.length st.pre o.dst (I7 P st' rs).2)→
  a'.defers=[]∧ ∃ v,(results fn a'.tmps).run P w'= .ok v w'∧kp ⟨w0,av,old,I',gv⟩ K (a.put o.dst v) w':=by
  intro ⟨q1,q2⟩
  rw [←hrs]at q1 q2
  obtain⟨v,k1,k2⟩:=Sp hR' (fn:=fn) q1
  refine⟨hR'.dfr,v,k1,_,G',q2,?_⟩
  exact(R.back hR.dfr rfl hR' hR.size.symm st.pre).put k2
 cases e<;>simp only [gI]at q<;>first | exact fin q | exact q.elim
end Go.PL
namespace Go.PL
open Go Go.RowKit
def ua:List V→Nat→List Nat→List V
 | [],_,_=>[]
 | v::vs,_,[]=>v::vs
 | v::vs,i,j::l=>match Nat.beq i j with
   | true=> .undef ::ua vs (i+1) l
   | false=>v::ua vs (i+1) (j::l)
def ub:List V→Nat→List (Nat×V)→List V
 | [],_,_=>[]
 | v::vs,_,[]=>v::vs
 | v::vs,i,(j,x)::l=>match Nat.beq i j with
   | true=>x::ub vs (i+1) l
   | false=>v::ub vs (i+1) ((j,x)::l)
inductive Dn where
 | k (n:Nat)
 | s (n:Nat) (l:List (Nat×C))
 | e (x:C3)
def uz:List C→Nat→List (Nat×C)→List C
 | [],_,_=>[]
 | v::vs,_,[]=>v::vs
 | v::vs,i,(j,x)::l=>match Nat.beq i j with
   | true=>x::uz vs (i+1) l
   | false=>v::uz vs (i+1) ((j,x)::l)
def qP:List C3→Nat→C3
 | [],_=>⟨[],none,[],false⟩
 | e::_,0=>e
 | _::l,n+1=>qP l n
def uc (old:List C3):List Dn→List C3
 | []=>[]
 | .k n::l=>qP old n::uc old l
 | .s n c::l=>(match qP old n with | ⟨i,r,cs,p⟩=>⟨i,r,uz cs 0 c,p⟩)::uc old l
 | .e x::l=>x::uc old l
def u (d:List Nat) (l:List (Nat×V)) (st:St):St:=⟨ub (ua st.tm 0 d) 0 l,st.so,st.gh,st.pre⟩
def uo (d:List Nat) (l:List (Nat×V)) (o:List Dn) (st:St):St:=⟨ub (ua st.tm 0 d) 0 l,uc st.so o,st.gh,st.pre⟩
def nA:Nat→List Stp
 | 0=>[]
 | n+1=> .a ::nA n
section
variable {P:Program} {F:Fr} {st:St} {id:Nat} {l:List Oper} {c:Code} {Q:Exit→St→Prop} {cs:List Prop} {K:St→Prop}
theorem Gg (ss:List Stp) (f:St→St) (hl:BE cs) (h:Ak P F c (f st) Q) (hr:Uu (HO P F.I false l.toArray l ss st) (f st)=some (cs,f st):=by kernel_rfl):Ak P F (.seq (.region id l.toArray false) c) st Q:=Ak.rg _ hr hl h
theorem Gq (h1:P.follows .mixedOrders =true) (ss:List Stp) (f:St→St) (hl:BE cs) (h:Ak P F c (f st) Q) (h2:Region.lexB .any l.toArray=true:=by kernel_rfl) (hr:Uu (HO P F.I true l.toArray l ss st) (f st)=some (cs,f st):=by kernel_rfl):Ak P F (.seq (.region id l.toArray true) c) st Q:=Rq h1 ss (f st) hl h h2 hr
theorem Ge (ss:List Stp) (f:St→St) (hl:BE cs) (h:Q .normal (f st)) (hr:HO P F.I false l.toArray l ss st=some (cs,f st):=by kernel_rfl):Ak P F (.region id l.toArray false) st Q:=Ak.reg hr hl h
theorem Gf (h1:P.follows .mixedOrders =true) (ss:List Stp) (f:St→St) (hl:BE cs) (h:Q .normal (f st)) (h2:Region.lexB .any l.toArray=true:=by kernel_rfl) (hr:HO P F.I true l.toArray l ss st=some (cs,f st):=by kernel_rfl):Ak P F (.region id l.toArray true) st Q:=Ak.regQ h1 h2 hr hl h
theorem Gp {I:World→Prop} {ops:Array Oper} (n:Nat) (ss:List Stp) (f:St→St) (hc:BE cs) (hK:Ct P I ops (l.drop n) (f st) K) (h:HO P I false ops (l.take n) ss st=some (cs,f st):=by kernel_rfl):Ct P I ops l st K:=Run.part n (f st) h hc hK
theorem Gw {I:World→Prop} {ops:Array Oper} (ss:List Stp) (f:St→St) (hc:BE cs) (hK:K (f st)) (h:HO P I false ops l ss st=some (cs,f st):=by kernel_rfl):Ct P I ops l st K:=Run.whole (f st) h hc hK
theorem Gs (f:St→St) (h:Ak P F c (f st) Q) (hl:P9 st (f st)=some (f st):=by kernel_rfl):Ak P F c st Q:=Ak.less (D4.t hl) h
theorem Gj {X:Type} (S:X→St→St) (Φ:X→Prop) {x y:Code} {Q:Exit→St→Prop} (hx:Ak P F x st (Ca (fun st'=> ∃ v,Φ v∧Wk st' (S v st)) Q)) (hy: ∀ v,Φ v→Ak P F y (S v st) Q):Ak P F (.seq x y) st Q:=Sj (fun v=>S v st) Φ hx hy
theorem Gi {σ ρ:Type} {B:σ→Option (σ⊕ρ)} (S:σ→St→St) {N:Nat} {s0:σ} {o:ρ} {c:Code} {Q:Exit→St→Prop} (hi:PL.iter B N s0=some o) (hl:Wk st (S s0 st))
 (hb: ∀ s z,B s=some z→(∀ o',z= .inr o'→o'=o)→Ak P F c (S s st) (Ca (fun st'=> ∃ s',z= .inl s'∧Wk st' (S s' st)) Q)):Ak P F (.loop c) st Q:=It (fun v=>S v st) hi hl hb
theorem hS {x y:Code} {Q:Exit→St→Prop} (h:Ak P F x st (Ca (fun st'=>Ak P F y st' Q) Q)):Ak P F (.seq x y) st Q:=Ak.seq h
theorem hK (h:Q .normal st):Ak P F .skip st Q:=Ak.skip h
theorem hT (h:K st):Ak P F .skip st (Ca K Q):=Ak.skip h
theorem hR (h:Q .ret st):Ak P F .ret st Q:=Ak.ret h
theorem hE {id:Nat} (h:Q (.exit id) st):Ak P F (.exit id) st Q:=Ak.exit h
theorem hB {id:Nat} {c:Code} {Q:Exit→St→Prop} (h:Ak P F c st (BP id Q)):Ak P F (.block id c) st Q:=Ak.block h
theorem hO {id:Nat} {ops:Array Oper} {Q:Exit→St→Prop} (h:Ct P F.I ops ops.toList st (Q .normal)):Ak P F (.region id ops false) st Q:=Ak.region h
theorem Te {i:Nat} (h:Q (.exit i) st):Ca K Q (.exit i) st:=h
theorem qN {i:Nat} (h:Q .normal st):BP i Q .normal st:=h
theorem qR {i:Nat} (h:Q .ret st):BP i Q .ret st:=h
theorem qX {i:Nat} (h:Q .normal st):BP i Q (.exit i) st:=BP.out h
theorem qY {i j:Nat} (h:Q (.exit j) st) (hj:(j==i)=false:=by rfl):BP i Q (.exit j) st:=BP.on hj h
end
section
variable {α:Type} {e x:α}
theorem kB {e b:Bool} (h:some e=some b):vB e=vB b:=congrArg vB (sI h)
end
section
variable {α β γ δ ε:Type} {r:ε}
theorem Ex {o:Option α} {f:α→Option β} {g:α→β→Option ε} (h:(o.bind fun x=>(f x).bind (g x))=some r): ∃ x,o=some x∧ ∃ y,f x=some y∧g x y=some r:=by
 obtain⟨x,hx,h⟩:=bS h
 obtain⟨y,hy,h⟩:=bS h
 exact⟨x,hx,y,hy,h⟩
theorem I8 {o:Option α} {f:α→Option β} {g:α→β→Option γ} {k:α→β→γ→Option ε} (h:(o.bind fun x=>(f x).bind fun y=>(g x y).bind (k x y))=some r): ∃ x,o=some x∧ ∃ y,f x=some y∧ ∃ z,g x y=some z∧k x y z=some r:=by
 obtain⟨x,hx,h⟩:=bS h
 obtain⟨y,hy,z,hz,h⟩:=Ex h
 exact⟨x,hx,y,hy,z,hz,h⟩
theorem D2 {o:Option α} {f:α→Option β} {g:α→β→Option γ} {k:α→β→γ→Option δ} {m:α→β→γ→δ→Option ε} (h:(o.bind fun x=>(f x).bind fun y=>(g x y).bind fun z=>(k x y z).bind (m x y z))=some r): ∃ x,o=some x∧ ∃ y,f x=some y∧ ∃ z,g x y=some z∧ ∃ w,k x y z=some w∧m x y z w=some r:=by
 obtain⟨x,hx,h⟩:=bS h
 obtain⟨y,hy,z,hz,w,hw,h⟩:=I8 h
 exact⟨x,hx,y,hy,z,hz,w,hw,h⟩
end
section
variable {P:Program} {F:Fr} {st:St} {K:St→Prop}
theorem iC {cc:Operand} {x y:Code} {Q:Exit→St→Prop} {β:Type} {b:Bool} {X Y:Option β} {r:β} (h:(if b=true then X else Y)=some r) (h1:X=some r→Ak P F x st Q) (h2:Y=some r→Ak P F y st Q) (hc:st.ev cc= .c (.bool b):=by kernel_rfl):Ak P F (.cond cc x y) st Q:=
 Ak.ifB b hc (fun hb=>h1 (iT h hb)) (fun hb=>h2 (iF h hb))
theorem nR {rs:List ResultVar} {m:Nat} {pre:CI} {d:Option Nat} (v:V) (hK:K (st.back m pre d v)) (h:UJ P st rs=some v:=by kernel_rfl):gI P rs m pre d K .ret st:=gI.ret h hK
theorem nN {rs:List ResultVar} {m:Nat} {pre:CI} {d:Option Nat} (v:V) (hK:K (st.back m pre d v)) (h:UJ P st rs=some v:=by kernel_rfl):gI P rs m pre d K .normal st:=gI.normal h hK
def ud:Nat→Prop
 | 0=>True
 | n+1=>True∧ud n
theorem qQ: ∀ n,ud n
 | 0=>trivial
 | n+1=>⟨trivial,qQ n⟩
theorem Ei {I:World→Prop} {o:Oper} {x:Operand} {xs:List Operand} {c:Call} {f:FuncId} {fn:Func} {body:Code} {n:Nat} (k:Nat) (vs:List V) (cs:List C)
 (hfn:P.funcs[f]? =some fn) (hn:fn.ntmps=n) (rs:List ResultVar) (hb:fn.body=some body) (ho:o.op= .call c) (hcal:c.callee= .value x) (hxs:c.args.toList=xs)
 (h: ∀ w0 av old gv,Ak P ⟨w0,av,old,I,gv⟩ body (st.enter k (vs++cs.map V.c) n) (gI P rs st.tm.length st.pre o.dst K))
 (ha:st.args true xs=(ud vs.length,vs):=by kernel_rfl) (hf:Y9 st x=some (f,cs):=by kernel_rfl) (hent:ent P f=true:=by kernel_rfl) (hr:fn.results=rs.toArray:=by kernel_rfl):E0 P I o st K:=
 E0.inline k ho hcal hxs ha (qQ _) hf hent hfn hb hn hr h
theorem pC {I:World→Prop} {o:Oper} {x:Operand} {xs:List Operand} {c:Call} {f:FuncId} {fn:Func} {body:Code} {n:Nat} (k:Nat) (vs:List V) (cs:List C)
 (hfn:P.funcs[f]? =some fn) (hn:fn.ntmps=n) (rs:List ResultVar) (hb:fn.body=some body) (ho:o.op= .call c) (hcal:c.callee= .value x) (hxs:c.args.toList=xs)
 (h: ∀ w0 av old gv,Ak P ⟨w0,av,old,I,gv⟩ body (st.enter k (cs.map V.c++vs) n) (gI P rs st.tm.length st.pre o.dst K))
 (ha:st.args true xs=(ud vs.length,vs):=by kernel_rfl) (hf:st.ev x= .c (.bmv f cs):=by kernel_rfl) (hent:ent P f=true:=by kernel_rfl) (hr:fn.results=rs.toArray:=by kernel_rfl):E0 P I o st K:=
 E0.inlineB k ho hcal hxs ha (qQ _) hf hent hfn hb hn hr h
theorem Nj {I:World→Prop} {ops:Array Oper} {X:Type} (S:X→St→St) (Φ:X→Prop) {l rest:List Oper} {o:Oper} (hl:l=o::rest) (hg:o.guard=none) (h:E0 P I o st (fun st'=> ∃ v,Φ v∧D4 st' (S v st))) (hK: ∀ v,Φ v→Ct P I ops rest (S v st) K):Ct P I ops l st K:=Run.inlJ (fun v=>S v st) Φ hl hg h hK
theorem Ng {I:World→Prop} {ops:Array Oper} {X:Type} (S:X→St→St) (Φ:X→Prop) {l rest:List Oper} {o:Oper} {j:Nat} {want g:Bool} (d:Nat) (hl:l=o::rest) (hg:o.guard=some (j,want)) (hd:o.dst=some d)
 (hT:g=true→E0 P I o st (fun st'=> ∃ v,Φ v∧D4 (st'.put (some d) (.g g (st'.get d))) (S v st)))
 (hF:g=false→ ∃ v x,Φ v∧D4 (st.put (some d) (.g g x)) (S v st))
 (hK: ∀ v,Φ v→Ct P I ops rest (S v st) K) (hgd:Mn st ops j want=some g:=by kernel_rfl):Ct P I ops l st K:=Run.inlgJ (fun v=>S v st) Φ d hl hg hd hT hF hK hgd
theorem rI {I:World→Prop} {ops:Array Oper} {l rest:List Oper} {o:Oper} (hl:l=o::rest) (hg:o.guard=none) (h:E0 P I o st (fun st'=>Ct P I ops rest st' K)):Ct P I ops l st K:=Run.inl hl hg h
end
theorem Af.bo {P:Program} {I:World→Prop} (hsta:Tl I) {f:FuncId} {fn:Func} {c:Code} {args:List V} {Q:V→Prop} {n:Nat} (hf:P.funcs[f]? =some fn) (hb:fn.body=some c) (hn:fn.ntmps=n) (rs:List ResultVar)
 (h: ∀ w0 av old gv,Ak P ⟨w0,av,old,I,gv⟩ c (St.start args n) (fun e st'=>(e= .normal ∨e= .ret)∧(I6 P st' rs).1∧(I6 P st' rs).2.pure =true∧Q (I6 P st' rs).2))
 (hent:PL.ent P f=true:=by kernel_rfl) (hr:fn.results=rs.toArray:=by kernel_rfl):Af P I f args Q:=Af.body hsta hent hf hb hn hr rfl h
end Go.PL
namespace Go.PL
open Go Go.RowKit
def Wh (I:World→Prop) (g:Nat) (tab:List (List UInt8)):Prop:= ∀ w,I w→ ∃ T fz,w.heap[g]? =some (.cells (tab.map fun s=>Value.string ⟨s.toArray⟩).toArray T fz)
theorem qS {i:Int} {n:Nat} (h:0≤i∧i<((n:Nat):Int)):i.toNat<n:=by omega
theorem R.I {F:Fr} {st:St} {a:Act} {w:World} {G:B4} (h:R F st a w G):F.I w:=h.inv w h.hsize h.ext
theorem Uv {I:World→Prop} {g:Nat} {tab:List (List UInt8)} (h:Wh I g tab) {w:World} (hw:I w) {i:Nat} (hi:i<tab.length):w.cell? ⟨g,i,none⟩=some (.string ⟨(tab.getD i []).toArray⟩):=by
 obtain⟨T,fz,hh⟩:=h w hw
 simp [World.cell?,hh,List.getD_eq_getElem?_getD,List.getElem?_eq_getElem hi]
section
variable {P:Program} {I:World→Prop} {o:Oper} {st:St} {K:St→Prop}
theorem E0.gAddr {t:TypeId} {x:Operand} {g n:Nat} {k:IntKind} {i:Int} {E:TypeId} (ho:o.op= .indexAddr t (.global g) x) (hi:0≤i∧i<n) (hK:K (st.put o.dst (.c (.gptr g i.toNat))))
 (hx:st.ev x= .c (.int k i):=by kernel_rfl) (ht:NH P t=some (n,E,1):=by kernel_rfl):E0 P I o st K:=by
 intro F a w G Q hI hR
 have hxv:=hR.ev x
 rw [hx]at hxv
 simp only [Ap,Ax]at hxv
 have hrun:(execOp a.eval o).run P w= .ok (.value (.pointer (some ⟨g,i.toNat,none⟩))) w:=by
  have:=MX ht g 0 k i hi.1 hi.2 w
  rw [Nat.zero_add,Nat.mul_one]at this
  have hgl:a.eval (.global g)= .pointer (some ⟨g,0,none⟩):=rfl
  simp [execOp,ho,hxv,hgl,this]
 exact D5 hrun ⟨_,G,hK,hR.put (by simp only [Ap,Ax])⟩
theorem E0.gLoad {t:TypeId} {x:Operand} {g off:Nat} {tab:List (List UInt8)} (ho:o.op= .load t x) (hg:Wh I g tab) (hoff:off<tab.length) (hK:K (st.put o.dst (.c (.str (tab.getD off [])))))
 (hx:st.ev x= .c (.gptr g off):=by kernel_rfl) (ht:Vg P t=some (false,1):=by kernel_rfl):E0 P I o st K:=by
 intro F a w G Q hI hR
 have hxv:=hR.ev x
 rw [hx]at hxv
 simp only [Ap,Ax]at hxv
 obtain⟨d,i,hu,hd,_⟩:=Ke ht
 have hc:=Uv hg (hI▸hR.I) hoff
 have hrun:(execOp a.eval o).run P w= .ok (.value (.string ⟨(tab.getD off []).toArray⟩)) w:=by
  simp [execOp,ho,hxv,Rm hu hd hc]
 exact D5 hrun ⟨_,G,hK,hR.put (by simp only [Ap,Ax])⟩
theorem Yt {w:World} {G:B4}: ∀ tab:List (List UInt8),AH w G (tab.map C.str) (tab.map fun s=>Value.string ⟨s.toArray⟩)
 | []=>by simp [AH]
 | s::l=>by simp only [List.map_cons,AH,Ax,true_and];exact Yt l
theorem E0.gAll {t:TypeId} {g:Nat} {tab:List (List UInt8)} (ho:o.op= .load t (.global g)) (hg:Wh I g tab) (hK:K (st.put o.dst (.agg (tab.map C.str))))
 (ht:Vg P t=some (true,tab.length):=by kernel_rfl):E0 P I o st K:=by
 intro F a w G Q hI hR
 obtain⟨d,i,hu,hd,hi,hsz⟩:=Ke ht
 have hw:I w:=hI▸hR.I
 have hrun:(execOp a.eval o).run P w= .ok (.value (.agg (tab.map fun s=>Value.string ⟨s.toArray⟩).toArray)) w:=by
  have:=run_loadAt_mid (P:=P) w g 0 t (tab.map fun s=>Value.string ⟨s.toArray⟩) d (fun j v hj=>by
   have hjl:j<tab.length:=by
    rcases Nat.lt_or_ge j tab.length with q | q
    ·exact q
    ·simp [List.getElem?_eq_none (show (tab.map fun s=>Value.string ⟨s.toArray⟩).length ≤j by simpa using q)]at hj
   rw [Nat.zero_add,Uv hg hw hjl]
   rw [List.getElem?_map,List.getElem?_eq_getElem hjl]at hj
   simpa [List.getD_eq_getElem?_getD,List.getElem?_eq_getElem hjl] using hj) hu hd (by simp [hi,hsz])
  have hgl:a.eval (.global g)= .pointer (some ⟨g,0,none⟩):=rfl
  simp [execOp,ho,hgl,this]
 exact D5 hrun ⟨_,G,hK,hR.put (by simp only [Ap];exact⟨_,rfl,by simpa using Yt tab⟩)⟩
theorem E0.frz (id:CI) {s:Stp} {l:List Prop} {st1:St} (hl:BE l) (hK:K (st1.freeze id)) (hk:(match DH o.op with
 | .ef =>true
 | _=>false)=true:=by kernel_rfl) (h:nk P st s o=some (l,st1):=by kernel_rfl):E0 P I o st K:=by
 intro F a w G Q hI hR
 obtain⟨h1,h2⟩:=Ts h hl
 have hs:kq P F.I o st (fun s'=>s'=st1):=by
  unfold kq
  refine .inr ?_
  split at hk
  ·rename_i he
   rw [he]
   exact⟨h1,h2⟩
  ·cases hk
 refine Oper.wp_mono (fun a' w' ⟨s',G',hs',hR'⟩=>?_) (QW hR hs)
 subst hs'
 obtain⟨G2,q⟩:=Wk.frz _ id F a' w' G' hR'
 exact⟨_,G2,hK,q⟩
end
end Go.PL
namespace Go.PL
open Go
set_option linter.all false
def LB (k:Nat) (l:List (List UInt8)):Prop:=l.length≤k∧ ∀ y∈l,y.length≤600
theorem LB.nil {k:Nat}:LB k []:=⟨by simp,by simp⟩
theorem LB.le {k m:Nat} {l:List (List UInt8)} (h:LB k l) (hk:k≤m):LB m l:=⟨by have:=h.1;omega,h.2⟩
theorem LB.add {k:Nat} {l:List (List UInt8)} {x:List UInt8} (h:LB k l) (hx:x.length≤600):LB (k+1) (l++[x]):=by
 refine⟨by have:=h.1;simp;omega,fun y hy=>?_⟩
 rw [List.mem_append,List.mem_singleton]at hy
 rcases hy with hy | rfl
 ·exact h.2 y hy
 ·exact hx
def ky (b:Nat):Option (List UInt8)→Bool
 | some w=>Nat.ble w.length b
 | none=>false
theorem sN {b:Nat} {o:Option (List UInt8)} (h:ky b o=true):W o (fun r=>r.length≤b):=by
 cases o with
 | none=>cases h
 | some w=>exact⟨w,rfl,Nat.le_of_ble_eq_true h⟩
theorem ju {n b:Nat} {f:Int→Option (List UInt8)} (h:((List.range n).all fun i=>ky b (f (i:Int)))=true) {i:Nat} (hi:i<n):W (f (i:Int)) (fun r=>r.length≤b):=
 sN (List.all_eq_true.1 h i (List.mem_range.2 hi))
theorem fc {n b:Nat} {f:Int→Option (List UInt8)} (h:((List.range n).all fun i=>ky b (f (i:Int)))=true) {i:Int} (h0:0≤i) (hi:i<n):W (f i) (fun r=>r.length≤b):=by
 have:=ju h (i:=i.toNat) (by omega)
 rwa [Int.toNat_of_nonneg h0]at this
section
variable {α β:Type} {Q:β→Prop} {k:Nat} {l:List (List UInt8)} {x:List UInt8}
theorem lp {J:List (List UInt8)→Option β} (h:LB k l) (hx:x.length≤600) (hJ: ∀ l',LB (k+1) l'→W (J l') Q) (hk:k≤1000:=by omega):W ((app 16 l ([x]:List (List UInt8))).bind J) Q:=by
 have h1:=h.1
 refine W.bd (W.app (b:=16) (l:=l) (m:=[x]) (by simp;omega) (by unfold maxLen;simp;omega)) (fun e he=>?_)
 subst he
 exact hJ _ (h.add hx)
theorem fd {c:Bool} {J:List (List UInt8)→Option β} (h:LB k l) (hx:x.length≤600) (hJ: ∀ l',LB (k+1) l'→W (J l') Q) (hk:k≤1000:=by omega):W (if c=true then(app 16 l ([x]:List (List UInt8))).bind J else J l) Q:=
 W.if (fun _=>lp h hx hJ hk) (fun _=>hJ _ (h.le (by omega)))
theorem qT {c:Bool} {J:List (List UInt8)→Option β} (h:LB k l) (hx:x.length≤600) (hJ: ∀ l',LB (k+1) l'→W (J l') Q) (hk:k≤1000:=by omega):W (if c=true then J l else(app 16 l ([x]:List (List UInt8))).bind J) Q:=
 W.if (fun _=>hJ _ (h.le (by omega))) (fun _=>lp h hx hJ hk)
theorem KX {a b:List UInt8} {f:List UInt8→Option β} (m:Nat) (h:a.length+b.length≤m) (hf: ∀ s,s.length=a.length+b.length→W (f s) Q) (hm:m≤100000000000:=by omega):W ((cat a b).bind f) Q:=
 W.bd (W.cat (by omega)) (fun s hs=>hf s hs.2)
def qU (i k:Nat) (r:(Int×List (List UInt8))⊕List (List UInt8)):Prop:= ∃ l',r= .inl ((i:Int)+1,l')∧LB (k+1) l'
theorem ek {i:Nat} {l':List (List UInt8)} (h:LB (k+1) l') (hi:i≤100000:=by omega):W (some (.inl (Ab ((i:Int)+1),l'))) (qU i k):=
 ⟨_,rfl,l',by rw [BD (by omega) (by omega)],h⟩
theorem lq {B:Int→List (List UInt8)→Option ((Int×List (List UInt8))⊕List (List UInt8))} {f:List (List UInt8)→Option β} (n:Nat) (hl:LB k l)
 (he: ∀ l,B (n:Int) l=some (.inr l)) (hs: ∀ (i m:Nat) l,i<n→m≤k+n→LB m l→W (B (i:Int) l) (qU i m)) (hf: ∀ l',LB (k+n) l'→W (f l') Q) (hn:n≤1000:=by omega):
 W ((iter (fun(v:Int×List (List UInt8))=>B v.1 v.2) FU (0,l)).bind f) Q:=by
 have key: ∀ (j i N:Nat) (l:List (List UInt8)),i+j=n→j<N→LB (k+i) l→ ∃ l',LB (k+n) l'∧iter (fun(v:Int×List (List UInt8))=>B v.1 v.2) N ((i:Int),l)=some l':=by
  intro j
  induction j with
  | zero=>
    intro i N l hi hN hl
    obtain⟨N,rfl⟩: ∃ M,N=M+1:=⟨N - 1,by omega⟩
    obtain rfl:i=n:=by omega
    exact⟨l,hl,DM (he l)⟩
  | succ j ih=>
    intro i N l hi hN hl
    obtain⟨N,rfl⟩: ∃ M,N=M+1:=⟨N - 1,by omega⟩
    obtain⟨r,h1,l',rfl,h2⟩:=hs i (k+i) l (by omega) (by omega) hl
    obtain⟨l2,h3,h4⟩:=ih (i+1) N l' (by omega) (by omega) h2
    refine⟨l2,h3,?_⟩
    rw [Ew h1]
    exact h4
 obtain⟨l',h1,h2⟩:=key n 0 FU l (by omega) (by unfold FU;omega) hl
 have h2':iter (fun(v:Int×List (List UInt8))=>B v.1 v.2) FU (0,l)=some l':=h2
 rw [h2']
 exact hf l' h1
theorem ve {B:Int→Int→Option ((Int×Int)⊕Int)} {f:Int→Option β} {a:Int} {g:Int→Int} (n:Int) (hn:n≤1000)
 (hB: ∀ m k,B m k=if decide (k<n)=true then some (.inl (g m,Ab (k+1)))else some (.inr m)) (hf: ∀ m,W (f m) Q):W ((iter (fun(v:Int×Int)=>B v.1 v.2) FU (a,0)).bind f) Q:=by
 refine W.it (fun v=>0≤v.2∧(v.2≤n∨v.2≤0)) (fun v=>(n - v.2).toNat) ⟨by simp,by simp⟩ (by dsimp only;omega) (fun v hv=>?_)
 obtain⟨m,k⟩:=v
 dsimp only at hv ⊢
 rw [hB]
 refine W.if (fun h=>?_) (fun h=>W.ex (hf m))
 have h:=of_decide_eq_true h
 have:=BD (x:=k+1) (by omega) (by omega)
 exact W.nx (by dsimp only;omega) (by dsimp only;omega)
end
theorem Wi (sep:List UInt8) (n:Nat): ∀ {l:List (List UInt8)},(∀ y∈l,y.length≤n)→(Lib.join l sep).length ≤l.length*(n+sep.length)
 | [],_=>by simp [Lib.join_nil]
 | [a],h=>by
   have:=h a (by simp)
   rw [Lib.join_one];simp;omega
 | a::b::l,h=>by
   have h1:=h a (by simp)
   have h2:=Wi sep n (l:=b::l) (fun y hy=>h y (by simp [hy]))
   have e:Lib.join (a::b::l) sep=a++(sep++Lib.join (b::l) sep):=by simp [Lib.join_cons,Lib.joinTail]
   rw [e,List.length_append,List.length_append,List.length_cons]
   rw [Nat.add_mul]
   omega
end Go.PL
namespace Go.PL
open Go
theorem RR {a b:Bool} (h:a=true) (k:b=true):(a&&b)=true:=by rw [h,k];rfl
theorem jv {P:Program} {f:FuncId} {fn:Func} {s:ChangeSpec} {c:OpenClaim} (h0:(c.wf (OpenSpec.ofChange s))=true) (h1:(laidOutB P)=true) (h2:(mapsRowed P)=true) (h3:(fn.params.all (P.readableRec ·))=true) (h4:(namedTie P c.named s.vars)=true) (h5:((c.stops==[]))=true) (h6:((P.stops==[]))=true) (h7:((c.knobs==[]))=true) (h8:((P.stopKnobs==[]))=true) (h9:((c.inPlace==P.inPlace f))=true) (h10:((c.unfollowed==P.unfollowed f))=true) (h11:((c.recurses==P.recurses f))=true) (h12:((c.named==P.varsNamed f))=true) (h13:((c.maps==(fn.params.toList++s.plain.varTypes P).any (P.mapsRec ·)))=true) (h14:((c.ifaces==(fn.params.toList++s.plain.varTypes P).any (P.ifacesRec ·)))=true) (h15:((c.mapsOut==P.mapsAmong fn.resultTypes.toList))=true) (h16:((c.loops==(fn.params.toList++s.plain.varTypes P).any (P.loopsFrom ·)))=true) (h17:((c.wideKeys==(fn.params.toList++s.plain.varTypes P++fn.resultTypes.toList).any (P.wideKeysFrom ·)))=true) (h18:(s.vars.all (P.varReadable ·))=true) (h19:(fn.resultTypes.all (fun t=>P.readableRec t&&decide (t<P.types.size)))=true) (h20:((c.ifacesOut==fn.resultTypes.toList.any (P.ifacesRec ·)))=true) (h21:((c.loopsOut==fn.resultTypes.toList.any (P.loopsFrom ·)))=true) (h22:((c.plainKeys==P.plainKeys))=true) (h23:(c.shortTexts.isNone)=true) (h24:(P.stopsHeard)=true) (h25:(P.mayEnter)=true) (h26:((c.lifted==P.liftsFinal))=true) (h27:((P.make==some c.make))=true) (h28:(c.domain.isEmpty&&(c.kinds==[]))=true) (h29:((c.pinned==c.pinnedBy))=true) (h30:((c.veiled==(fn.params.toList++s.plain.varTypes P++fn.resultTypes.toList).any (P.veiledRec ·)))=true) (h31:(c.veiledFits P fn.params.toList (fn.params.toList++s.plain.varTypes P++fn.resultTypes.toList))=true):joinedFacts P f fn s c=true:=by
 obtain⟨d1,d2⟩:=(Bool.and_eq_true _ _▸h28:_∧_)
 unfold joinedFacts
 rw [if_pos d1]
 exact(RR (RR (RR (RR (RR (RR (RR (RR (RR (RR (RR (RR (RR (RR (RR (RR (RR (RR (RR (RR (RR (RR (RR (RR (RR (RR (RR (RR (RR (RR (RR h0 h1) h2) h3) h4) h5) h6) h7) h8) h9) h10) h11) h12) h13) h14) h15) h16) h17) h18) h19) h20) h21) h22) h23) h24) h25) h26) h27) d2) h29) h30) h31)
end Go.PL
namespace Go.PL
open Go
section
variable {H:Type} {enc:TypeId×Value→H}
theorem nV {a:Assume} {C:Checked} {os:Os} {f:FuncId} {fn:Func} {s:ChangeSpec} {conds:List PathCond} {apart fresh handsOn again:Bool} {X:World→Array Value→Prop}
 (hX: ∀ (w w':World) (args:Array Value),w.heap=w'.heap→X w args→X w' args)
 (own:ownKnob C.prog.godebug=none) (started:os.Started) (noInit:C.prog.inits.idxOf? f=none) (hfn:C.prog.funcs[f]? =some fn)
 (witness: ∃ (w:World) (tape:Tape) (i:Input),w.os=os∧(w.forCall tape i).Shaped C.prog∧i.vars=[]∧Input.okWide C.prog (w.forCall tape i) .any w.heap.size f i∧
  ((s.pre enc C.prog fn conds apart (w.forCall tape i).memory i.args∧X (w.forCall tape i).memory i.args)∧sizedMet enc C.prog fn (OpenSpec.ofChange s) apart (w.forCall tape i).memory i.args)∧a.holds C.prog (lone (Frame.enter C.prog f i.args .normal) [] (w.forCall tape i)))
 (contract: ∀ (W:World) (base:Nat) (args:Array Value) (ds gs:List (DataW H)) (before:List MemPlace),
  (∀ (j:Nat) t v,fn.params[j]? =some t→args[j]? =some v→Value.okWide C.prog W .any base t v)→
  DataW.Whole enc C.prog fn.params.toList s.vars apart W args.toList ds gs before→
  conds.all (PathCond.test C.prog ⟨fn.params.toList,ds,s.plain.varTypes C.prog,gs⟩)=true→
  (DataW.weightsEach C.prog (fn.params.toList++s.plain.varTypes C.prog) (ds++gs)).all (· ≤reachBytes)=true→X W args→W.ShapedOpen C.prog→
  a.holds C.prog (lone (Frame.enter C.prog f args .normal) [] W)→
  Calls C.prog f args W fun e W'=> ∃ v,e= .returned v∧s.post enc C.prog fn apart fresh handsOn again W args v W'):
 ReturnsInHanded a C os f .any (fun w args=>(s.pre enc C.prog fn conds apart w args∧X w args)∧sizedMet enc C.prog fn (OpenSpec.ofChange s) apart w args) (s.post enc C.prog fn apart fresh handsOn again):=by
 refine returnsInHanded_of_calls own started noInit witness ?_
 intro w tape i _ hsh _ hok hpre hholds
 obtain⟨_,_,_,fn',hfn',_,_,_,_,hval⟩:=hok
 have e:fn'=fn:=Option.some.inj (hfn'.symm.trans hfn)
 subst e
 obtain⟨⟨⟨ds,gs,before,hw,hc⟩,hx⟩,hz⟩:=hpre
 have hw':=DataW.Whole.of_heap (w':=w.forCall tape i) (by rfl) hw
 refine(contract (w.forCall tape i) w.heap.size i.args ds gs before hval hw' hc (hz.weights hw) (hX _ _ _ (by rfl) hx) hsh hholds).mono fun e W' ⟨v,he,hp⟩=>?_
 subst he
 exact ChangeSpec.post_blind hp
def Zk {H:Type} (ss:List (List UInt8)):DataW H:= .agg (ss.map fun s=> .lit (.string s))
theorem Xt {H:Type} {enc:TypeId×Value→H} {P:Program} {w:World} {base:Nat} {sp:Nat→Bool} {held:Bool} {fuel:Nat} {t e:TypeId} {n:Nat} {cs:List Value} {ss:List (List UInt8)} {p:List MemPlace}
 (ht:P.underlying t=some (.array n e)) (he:P.underlying e=some .string) (hce:P.cellsOf e=1) (hct:P.cellsOf t=n)
 (h:DataW.trod enc P w base sp held fuel t cs=some (Zk ss,p)):cs=ss.map fun s=>Value.string ⟨s.toArray⟩:=by
 cases fuel with
 | zero=>simp [DataW.trod]at h
 | succ fuel=>
   simp only [DataW.trod,ht,hce,hct,Nat.mul_one]at h
   split at h
   ·rename_i hl
    obtain⟨xs,hm,hx⟩:=Option.map_eq_some_iff.1 h
    have hxs:xs.map (·.1)=ss.map fun s=>(DataW.lit (.string s):DataW H):=by
     have:=congrArg Prod.fst hx
     simpa [Zk] using this
    have hxl:xs.length=n:=by simpa using Lib.mapM_length hm
    have hzl:ss.length=n:=by
     have:=congrArg List.length hxs
     simp at this
     omega
    apply List.ext_getElem?
    intro i
    by_cases hi:i<n
    ·obtain⟨b,hb,hf⟩:=Lib.mapM_at hm i i (by simp [hi])
     obtain⟨z,hc,rfl,_⟩:=DataW.trod_string he hf
     have h1:cs[i]? =some (.string z):=by
      have:=congrArg (·[0]?) hc
      simpa [List.getElem?_take,List.getElem?_drop] using this
     have h2:(xs.map (·.1))[i]? =some (DataW.lit (.string z.data.toList):DataW H):=by simp [hb]
     rw [hxs]at h2
     simp only [List.getElem?_map,Option.map_eq_some_iff,DataW.lit.injEq,Lit.string.injEq]at h2
     obtain⟨z',hz',hz2⟩:=h2
     rw [h1,List.getElem?_map,hz',hz2]
     rfl
    ·rw [List.getElem?_eq_none (by omega),List.getElem?_eq_none (by simp;omega)]
   ·cases h
theorem SC {P:Program} {W:World} {name:String} {ss:List (List UInt8)} {rest:List (String×DataW Unit)} {g:Nat} {t e:TypeId} {n:Nat}
 (hg:P.globalNamed name=some g) (hty:(P.globals[g]?).map (·.type)=some t) (ht:P.underlying t=some (.array n e)) (he:P.underlying e=some .string) (hce:P.cellsOf e=1) (hct:P.cellsOf t=n)
 (h:laidMet P ((name,Zk ss)::rest) W): ∃ T fz,W.heap[g]? =some (.cells (ss.map fun s=>Value.string ⟨s.toArray⟩).toArray T fz):=by
 obtain⟨ps,⟨g',t',cs,fuel,p,q,hg',ht',hvar,hd,_,_⟩,_⟩:=h
 obtain rfl:=Option.some.inj (hg.symm.trans hg')
 obtain rfl:=Option.some.inj (hty.symm.trans ht')
 have hc:=Xt ht he hce hct hd
 simp only [World.var?,hg,Option.bind_some]at hvar
 split at hvar
 ·rename_i c T fz hh
  injection hvar with hv
  subst hv
  refine⟨T,fz,?_⟩
  rw [hh, ←hc]
 ·cases hvar
end
end Go.PL
