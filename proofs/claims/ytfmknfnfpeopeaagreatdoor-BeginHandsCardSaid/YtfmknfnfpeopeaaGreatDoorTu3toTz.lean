/- The pure logic: Tu3, Tu4, Tu5, Tu6, Tu7, Tu8, Tu9, Tua, Tx, Tp, Tw, PlYi, Tz. -/
import Derived.Test.YtfmknfnfpeopeaaGreatDoorPlYbtoTu2
set_option linter.all false
set_option linter.all false
namespace Go.PL
open Go Go.RowKit
variable {T:Be}
theorem U4 {E:Nat} {n n':Int}: ∀ {l:List (T.den E)} {k:Int},n≤k→n'≤k→Aw T E n k l=Aw T E n' k l
 | [],_,_,_=>rfl
 | x::l,k,h,h'=>by
   rw [Aw,Aw,if_neg (by omega),if_neg (by omega),U4 (n':=n') (l:=l) (k:=k+1) (by omega) (by omega)]
theorem RN {E:Nat} {x':T.den E} {n:Int}: ∀ {l:List (T.den E)} {k:Int} {i:Nat},i<l.length→k+i=n→(Aw T E n k l).take (i*T.sz E)++(T.denc E x'++(Aw T E n k l).drop (i*T.sz E+T.sz E))=Aw T E (n+1) k (l.set i x')
 | [],_,_,h,_=>by simp at h
 | y::l,k,0,h,hk=>by
   have hk:k=n:=by simpa using hk
   rw [List.set_cons_zero,Aw,Aw,if_neg (by omega),if_pos (by omega),Nat.zero_mul,Nat.zero_add,List.take_zero,List.nil_append,List.drop_append_of_le_length (by rw [AD];exact Nat.le_refl _),List.drop_eq_nil_of_le (by rw [AD];exact Nat.le_refl _),List.nil_append,U4 (n':=n+1) (by omega) (by omega)]
 | y::l,k,i+1,h,hk=>by
   have hk':k<n:=by push_cast at hk;omega
   have e:(i+1)*T.sz E=T.sz E+i*T.sz E:=by rw [Nat.add_mul,Nat.one_mul,Nat.add_comm]
   rw [List.set_cons_succ,Aw,Aw,if_pos hk',if_pos (by omega),e, ←RN (l:=l) (k:=k+1) (by simpa using h) (by push_cast at hk;omega)]
   rw [List.take_append,List.drop_append,Du,List.take_of_length_le (by rw [Du];omega),List.drop_eq_nil_of_le (by rw [Du];omega),List.nil_append]
   simp only [Nat.add_sub_cancel_left,List.append_assoc]
   rw [show T.sz E+i*T.sz E+T.sz E - T.sz E=i*T.sz E+T.sz E by omega]
def JE:C→C
 | .osl _=> .any
 | c=>c
def MF (st:Ag T):(ks:List Kd)→List (DC T)→Option (DK T.den ks×List Ah)
 | [],[]=>some ((),[])
 | .lst F::ks,c::cs=>match HX c with
   | some r=>match Db st r with
     | some ⟨F',l⟩=>match U3 F F' l,MF st ks cs with
       | some l',some (y,rs)=>some ((l',y),r::rs)
       | _,_=>none
     | none=>none
   | none=>none
 | .int k::ks,c::cs=>match Gv false (.int k) c,MF st ks cs with
   | some x,some (y,rs)=>some ((x,y),rs)
   | _,_=>none
 | .bool ::ks,c::cs=>match Gv false .bool c,MF st ks cs with
   | some x,some (y,rs)=>some ((x,y),rs)
   | _,_=>none
 | .str ::ks,c::cs=>match Gv false .str c,MF st ks cs with
   | some x,some (y,rs)=>some ((x,y),rs)
   | _,_=>none
 | _,_=>none
structure it (st:Ag T) (ks:List Kd) (cs:List (DC T)) (y:DK T.den ks) (rs:List Ah) (b:Nat) (ars:List AR):Prop where
 ids:ars.map (·.r)=rs
 len:cs.length=ks.length
 at_: ∀ x∈ars,st.toSt.look x.r=some x.ent∧b≤x.k∧x.k<b+ks.length∧(Aq cs)[x.k - b]? =some (.osl x.r)
 sets: ∀ pre post:List C,pre.length=b→Gy (pre++((Aq cs).map JE++post)) ars=pre++(BA T ks y++post)
 pure:Ao ((Aq cs).map JE)=true
 noi:((Aq cs).map JE).all Yu=true
theorem it.sc {st:Ag T} {ks:List Kd} {cs:List (DC T)} {y:DK T.den ks} {rs:List Ah} {b:Nat} {ars:List AR} (h:it st ks cs y rs (b+1) ars) (k:Kd) (x:KA T.den k) (c:DC T) (hk:KD k=true) (hc:c.toC=Bd T.enc k x):it st (k::ks) (c::cs) ((x,y):KA T.den k×DK T.den ks) rs b ars:=by
 have hu:JE c.toC=QR T k x:=by rw [hc];cases k<;>first | rfl | cases hk
 have hp:(QR T k x).pure =true∧Yu (QR T k x)=true:=by cases k<;>first | exact⟨rfl,rfl⟩ | cases hk
 refine⟨h.ids,by simp [h.len],fun z hz=>?_,fun pre post hl=>?_,?_,?_⟩
 ·obtain⟨a1,a2,a3,a4⟩:=h.at_ z hz
  refine⟨a1,by omega,by simp;omega,?_⟩
  rw [Aq,show z.k - b=(z.k - (b+1))+1 by omega,List.getElem?_cons_succ];exact a4
 ·have:=h.sets (pre++[QR T k x]) post (by simp [hl])
  simp only [Aq,List.map_cons,hu,BA]
  simpa only [List.append_assoc,List.singleton_append,List.cons_append,List.nil_append] using this
 ·simp only [Aq,List.map_cons,Ao,Bool.and_eq_true];exact⟨by rw [hu];exact hp.1,h.pure⟩
 ·simp only [Aq,List.map_cons,List.all_cons,Bool.and_eq_true];exact⟨by rw [hu];exact hp.2,h.noi⟩
theorem GV {st:Ag T}: ∀ {ks:List Kd} {cs:List (DC T)} {y:DK T.den ks} {rs:List Ah},MF st ks cs=some (y,rs)→ ∀ b:Nat, ∃ ars,it st ks cs y rs b ars
 | [],[],y,rs,h,b=>by
   simp only [MF,Option.some.injEq]at h
   injection h with h1 h2
   subst h1 h2
   exact⟨[],rfl,rfl,(fun x hx=>nomatch hx),(fun pre post _=>rfl),rfl,rfl⟩
 | [],_::_,_,_,h,_=>by simp [MF]at h
 | k::_,[],_,_,h,_=>by cases k<;>simp [MF]at h
 | .int k::ks,c::cs,y,rs,h,b=>by
   simp only [MF]at h
   split at h
   ·rename_i x y' rs' h1 h2
    injection h with h;injection h with e1 e2;subst e1 e2
    obtain⟨ars,ha⟩:=GV h2 (b+1)
    exact⟨ars,ha.sc (.int k) x c rfl ((Co h1).2 rfl)⟩
   ·cases h
 | .bool ::ks,c::cs,y,rs,h,b=>by
   simp only [MF]at h
   split at h
   ·rename_i x y' rs' h1 h2
    injection h with h;injection h with e1 e2;subst e1 e2
    obtain⟨ars,ha⟩:=GV h2 (b+1)
    exact⟨ars,ha.sc .bool x c rfl ((Co h1).2 rfl)⟩
   ·cases h
 | .str ::ks,c::cs,y,rs,h,b=>by
   simp only [MF]at h
   split at h
   ·rename_i x y' rs' h1 h2
    injection h with h;injection h with e1 e2;subst e1 e2
    obtain⟨ars,ha⟩:=GV h2 (b+1)
    exact⟨ars,ha.sc .str x c rfl ((Co h1).2 rfl)⟩
   ·cases h
 | .lst F::ks,c::cs,y,rs,h,b=>by
   simp only [MF]at h
   split at h
   ·rename_i r ho
    split at h
    ·rename_i F' l hr
     split at h
     ·rename_i l' y' rs' h1 h2
      injection h with h;injection h with e1 e2;subst e1 e2
      obtain⟨e,rfl⟩:=Jn h1
      subst e
      obtain⟨ars,ha⟩:=GV h2 (b+1)
      obtain⟨q1,_,d,q2,q3,q4⟩:=BF hr
      have hc:=Dy ho
      refine⟨⟨b,r,F',T.sz F',l.length,l.flatMap (T.enc F')⟩::ars,by simp [ha.ids],by simp [ha.len],fun z hz=>?_,fun pre post hl=>?_,?_,?_⟩
      ·rcases List.mem_cons.1 hz with rfl | hz
       ·refine⟨q1,Nat.le_refl _,by simp,?_⟩
        rw [hc,Aq,Nat.sub_self];rfl
       ·obtain⟨a1,a2,a3,a4⟩:=ha.at_ z hz
        refine⟨a1,by omega,by simp;omega,?_⟩
        rw [Aq,show z.k - b=(z.k - (b+1))+1 by omega,List.getElem?_cons_succ];exact a4
      ·have:=ha.sets (pre++[.isl F' (T.sz F') l.length (l.flatMap (T.enc F'))]) post (by simp [hl])
       have e1:Gy (pre++((Aq (c::cs)).map JE++post)) (⟨b,r,F',T.sz F',l.length,l.flatMap (T.enc F')⟩::ars)=Gy ((pre++[.isl F' (T.sz F') l.length (l.flatMap (T.enc F'))])++((Aq cs).map JE++post)) ars:=by
        unfold Gy
        rw [List.foldl_cons]
        congr 1
        simp only [Aq,List.map_cons,List.cons_append]
        rw [List.set_append_right _ _ (by omega),hl,Nat.sub_self,List.set_cons_zero,List.append_assoc]
        rfl
       rw [e1,this]
       simp only [BA,List.append_assoc,List.singleton_append,List.cons_append]
       rfl
      ·simp only [Aq,List.map_cons,Ao,Bool.and_eq_true];rw [hc];exact⟨rfl,ha.pure⟩
      ·simp only [Aq,List.map_cons,List.all_cons,Bool.and_eq_true];rw [hc];exact⟨rfl,ha.noi⟩
     ·cases h
    ·cases h
   ·cases h
theorem RO {w:World} {G:Ay}: ∀ {cs:List C} {vs:List Value},Ai w G cs vs→Ai w G (cs.map JE) vs
 | [],[],_=>by simp [Ai]
 | [],_::_,h=>by simp [Ai]at h
 | _::_,[],h=>by simp [Ai]at h
 | c::cs,v::vs,h=>by
   simp only [Ai,List.map_cons]at h ⊢
   refine⟨?_,RO h.2⟩
   cases c<;>first | exact h.1 | (simp only [JE,Ad];exact h.1.one)
theorem RP {w:World} {G:Ay}: ∀ {cs:List C} {vs:List Value} {k:Nat} {c:C},Ai w G cs vs→cs[k]? =some c→ ∃ v,vs[k]? =some v∧Ad w G c v
 | [],_,_,_,_,h=>by simp at h
 | _::_,[],_,_,h,_=>by simp [Ai]at h
 | d::cs,v::vs,0,c,h,hc=>by
   simp only [List.getElem?_cons_zero,Option.some.injEq]at hc;subst hc
   simp only [Ai]at h;exact⟨v,rfl,h.1⟩
 | d::cs,v::vs,k+1,c,h,hc=>by
   simp only [Ai]at h
   obtain⟨u,h1,h2⟩:=RP (k:=k) h.2 (by simpa using hc)
   exact⟨u,by simpa using h1,h2⟩
def dse (P:Program) (o:Oper) (st:Ag T):M (Ag T):=match o.op with
 | .store t x y=>match o.dst,st.arg [] x,st.arg [] y,Ir P t with
   | none,some (.c (.rp id N i 0)),some (.agg cs),some (_,n)=>match IE st id with
     | some ⟨E,(nn,l,none)⟩=>match MF st (T.ks E) cs with
       | some (z,rs)=>mIf (Ed id&&(Nat.beq N (T.sz E)&&(Nat.beq n (T.sz E)&&Jb rs))) (.opt (AN l i) fun _=> .opt (AS (i=nn)) fun _=>
        .ret ((st.killD (ME rs id)).setX id (.deep E (nn+1) (l.set i.toNat (T.bd E z)) none)))
       | none=> .no
     | _=> .no
   | _,_,_,_=> .no
 | _=> .no
theorem kJ {H:At T} {P:Program} {I:World→Prop} {st:Ag T} (hw:AB H st) {o:Oper}:Yl (dse P o st) (fun st'=>(∃ H',Nx H st H' st')∧st'.pre=st.pre∧ ∀ K:St→Prop,K st'.toSt→Eg P I o st.toSt K):=by
 unfold dse
 split
 ·rename_i t x y hop
  split
  ·rename_i id N i cs ag n hd hx hy ht
   split
   ·rename_i E nn l hdr
    split
    ·rename_i z rs hea
     refine Yl.mIf fun hg=>Yl.opt fun xx hxx=>Yl.opt fun u hu=>?_
     simp only [Bool.and_eq_true,Nat.beq_eq]at hg
     obtain⟨g1,g2,g3,g4⟩:=hg
     subst g2 g3
     have hin:i=nn:=CQ hu
     obtain⟨i0,i1,hxi⟩:=GJ hxx
     obtain⟨a1,a2,a3⟩:=Hv hw hx
     obtain⟨b1,b2,b3⟩:=Hv hw hy
     obtain⟨hmk,hlr,e,he1,he2,he3⟩:=Ce hdr
     have hE:e.toE=⟨id,some (E,T.sz E,l.length),Aw T E nn 0 l,true⟩:=by unfold DE.toE;rw [he3,he2];rfl
     obtain⟨ars,ha⟩:=GV hea (i.toNat*T.sz E)
     have hcl:cs.length=T.sz E:=ha.len
     have hput:=RN (x':=T.bd E z) (n:=nn) (l:=l) (k:=0) (i:=i.toNat) (by omega) (by omega)
     obtain⟨⟨H1,n1⟩,k2,k3⟩:=Jr hw (ME rs id)
     obtain⟨H2,n2⟩:=Ag.setX_nx n1.ok id (x:= .deep E (nn+1) (l.set i.toNat (T.bd E z)) none) trivial
     refine Yl.ret ⟨⟨H2,n1.trans n2⟩,k2,fun K hK Fr a w G Q hI hR=>?_⟩
     have hL:st.toSt.lookD id=some e.toE:=hR.lookD_of (List.mem_map.2 ⟨e,he1,rfl⟩) (by rw [hE]) g1
     have hxv:=hR.arg rfl a2
     rw [a3]at hxv
     simp only [DV.toV,DC.toC,Ab,Ad,Nat.add_zero]at hxv
     obtain⟨b,hb1,hv⟩:=hxv
     have hyv:=hR.arg rfl b2
     rw [b3]at hyv
     simp only [DV.toV,Ab]at hyv
     obtain⟨arr,hyv,hcs⟩:=hyv
     have hvl:(a.eval y).cells.toList =arr.toList:=by rw [hyv];rfl
     have hlen:e.toE.cs.length=l.length*T.sz E:=by rw [hE];exact Fz _ _ _ _
     have hle:i.toNat*T.sz E+T.sz E≤e.toE.cs.length:=by
      rw [hlen]
      have:(i.toNat+1)*T.sz E≤l.length*T.sz E:=Nat.mul_le_mul_right _ (by omega)
      rwa [Nat.add_mul,Nat.one_mul]at this
     have hxl:((Aq cs).map JE).length =T.sz E:=by simp [hcl,Ax]
     have hal:arr.toList.length=T.sz E:=by rw [←hcs.length,Ax,hcl]
     have hc:Ai w G ((Aq cs).map JE) (a.eval y).cells.toList :=by rw [hvl];exact RO hcs
     obtain⟨cur,T',c1,c2,c3⟩:=hR.deepStored hL hb1 (off:=i.toNat*T.sz E) hc (by omega) ha.pure ha.noi
     have hs:=Ds (P:=P) ht c1 (by rw [hvl];exact hal) c2 (Ai.one hc)
     rw [hvl]at hs c2 c3
     have hcell: ∀ j v,arr.toList[j]? =some v→(w.setRow b (cur.toList.take (i.toNat*T.sz E)++arr.toList++cur.toList.drop (i.toNat*T.sz E+arr.toList.length)).toArray).cell? ⟨b,i.toNat*T.sz E+j,none⟩=some v:=by
      intro j v hj
      have:=setRow_heap w b cur (cur.toList.take (i.toNat*T.sz E)++arr.toList++cur.toList.drop (i.toNat*T.sz E+arr.toList.length)).toArray T' (0,0) c1
      simp only [World.cell?,this]
      have hkl:(cur.toList.take (i.toNat*T.sz E)).length =i.toNat*T.sz E:=by
       rw [List.length_take]
       have:cur.toList.length=cur.size:=by simp
       omega
      have hjl:j<arr.toList.length:=(List.getElem?_eq_some_iff.1 hj).1
      have:(cur.toList.take (i.toNat*T.sz E)++arr.toList++cur.toList.drop (i.toNat*T.sz E+arr.toList.length))[i.toNat*T.sz E+j]? =some v:=by
       rw [List.append_assoc,List.getElem?_append_right (by omega),hkl,show i.toNat*T.sz E+j - i.toNat*T.sz E=j by omega,List.getElem?_append_left hjl]
       exact hj
      simpa using this
     generalize w.setRow b _=w1 at hs c3 hcell
     have hrun:(execOp a.eval o).run P w= .ok .skip w1:=by simp [execOp,hop,hv,hs]
     have hmem: ∀ d∈st.toSt.so,d.id ≠ id→d∈(st.toSt.setD id e.toE.row (e.toE.cs.take (i.toNat*T.sz E)++(Aq cs).map JE++e.toE.cs.drop (i.toNat*T.sz E+((Aq cs).map JE).length))).so :=fun d hd' hne=>List.mem_map.2 ⟨d,hd',EZ hne⟩
     have hL2:(st.toSt.setD id e.toE.row (e.toE.cs.take (i.toNat*T.sz E)++(Aq cs).map JE++e.toE.cs.drop (i.toNat*T.sz E+((Aq cs).map JE).length))).lookD id=some ⟨id,e.toE.row,e.toE.cs.take (i.toNat*T.sz E)++(Aq cs).map JE++e.toE.cs.drop (i.toNat*T.sz E+((Aq cs).map JE).length),true⟩:=by
      refine c3.lookD_of (List.mem_map.2 ⟨e.toE,List.mem_map.2 ⟨e,he1,rfl⟩,?_⟩) rfl g1
      rw [DZ (by rw [hE])]
      simp only [hE]
     have htl:(e.toE.cs.take (i.toNat*T.sz E)).length =i.toNat*T.sz E:=by rw [List.length_take];omega
     have hsl:(e.toE.cs.take (i.toNat*T.sz E)++(Aq cs).map JE++e.toE.cs.drop (i.toNat*T.sz E+((Aq cs).map JE).length)).length =e.toE.cs.length:=by
      rw [List.length_append,List.length_append,htl,hxl,List.length_drop];omega
     obtain⟨G',q⟩:=c3.absorbL (p:=ME rs id) ars hL2 hb1 (fun ar har=>by
      obtain⟨p1,p2,p3,p4⟩:=ha.at_ ar har
      obtain⟨hmr,hidr⟩:=A0 p1
      have hnd:=En p1
      have hrid:ar.r ≠ id:=fun q=>by rw [q,g1]at hnd;cases hnd
      obtain⟨v,v1,v2⟩:=RP hcs p4
      simp only [Ad]at v2
      refine⟨c3.look_of (hmem _ hmr (by rw [hidr];exact hrid)) hidr hnd rfl,by rw [hsl];have:ar.k<i.toNat*T.sz E+T.sz E:=p3;omega,V9 (by rw [←ha.ids];exact List.mem_map.2 ⟨ar,har,rfl⟩),v,?_,v2.1⟩
      have:=hcell (ar.k - i.toNat*T.sz E) v v1
      rwa [show i.toNat*T.sz E+(ar.k - i.toNat*T.sz E)=ar.k by omega]at this) (by rw [ha.ids];exact FZ g4) ((st.killD (ME rs id)).setX id (.deep E (nn+1) (l.set i.toNat (T.bd E z)) none)).toSt (by
      have hnew:TB (id,(DX.deep E (nn+1) (l.set i.toNat (T.bd E z)) none:DX T))=⟨id,e.toE.row,Gy (e.toE.cs.take (i.toNat*T.sz E)++(Aq cs).map JE++e.toE.cs.drop (i.toNat*T.sz E+((Aq cs).map JE).length)) ars,true⟩:=by
       show (⟨id,some (E,T.sz E,(l.set i.toNat (T.bd E z)).length),Aw T E (nn+1) 0 (l.set i.toNat (T.bd E z)),true⟩:As)=_
       rw [List.append_assoc,ha.sets _ _ htl,hxl, ←hput]
       simp only [hE,List.length_set]
       congr 1
       have:T.denc E (T.bd E z)=BA T (T.ks E) z:=by rw [Be.denc,T.unmk]
       rw [this]
      have hB:=O3 (ns:=ars.map (·.r)) hw (p:=ME rs id) (fun n hn=>by rw [ha.ids]at hn;exact P7 hn) n2.ok hnew
      exact⟨hB.len,hB.tm,hB.glen,hB.gh,fun x hx=>(hB.so x hx).imp (fun q=>q) (fun⟨q1,q2,q3,q4⟩=>⟨hmem _ q1 q2,q2,q3,q4⟩),hB.nd,hB.pre⟩)
     exact Es hrun (by rw [hd];exact⟨_,G',hK,q⟩)
    ·exact Yl.no
   ·exact Yl.no
  ·exact Yl.no
 ·exact Yl.no
end Go.PL
set_option linter.all false
namespace Go.PL
open Go Go.RowKit
variable {T:Be}
def MG (st:Ag T):Option Operand→Option (Option Int)
 | none=>some none
 | some x=>match st.arg [] x with
   | some (.c (.k (.int _) i))=>some (some i)
   | _=>none
theorem FE {H:At T} {st:Ag T} (hw:AB H st) {x:Option Operand} {i:Option Int} (h:MG st x=some i) {F:Fr} {a:Act} {w:World} {G:Ay} (hR:R F st.toSt a w G): ∃ k:IntKind,x.map a.eval=i.map (Value.int k):=by
 cases x with
 | none=>simp only [MG,Option.some.injEq]at h;subst h;exact⟨.i64,rfl⟩
 | some x=>
   simp only [MG]at h
   split at h
   ·rename_i k j hx
    injection h with h;subst h
    obtain⟨a1,a2,a3⟩:=Hv hw hx
    have hxv:=hR.arg rfl a2
    rw [a3]at hxv
    simp only [DV.toV,DC.toC,Bd,Ab,Ad]at hxv
    exact⟨k,by rw [Option.map_some,hxv];rfl⟩
   ·cases h
theorem aY {P:Program} (len cap:Nat) (k1 k2 k3:IntKind) (lo hi mx:Option Int) (hm:mx.isSome=true→hi.isSome=true) (h1:0≤lo.getD 0) (h2:lo.getD 0≤hi.getD len) (h3:hi.getD len≤mx.getD cap) (h4:mx.getD cap≤cap) (w:World):
 (Instr.sliceBounds true len cap (lo.map (Value.int k1)) (hi.map (Value.int k2)) (mx.map (Value.int k3))).run P w= .ok ((lo.getD 0).toNat,(hi.getD len).toNat,(mx.getD cap).toNat) w:=by
 have e1: ∀ code,mx.isSome=true→(Instr.sliceBound (.int k3 (mx.getD cap)) cap code).run P w= .ok (mx.getD cap).toNat w:=fun code _=>run_sliceBound' w k3 _ cap code (by omega) h4
 have e2: ∀ code,(Instr.sliceBound (.int k2 (hi.getD len)) (mx.getD cap).toNat code).run P w= .ok (hi.getD len).toNat w:=fun code=>run_sliceBound' w k2 _ _ code (by omega) (by omega)
 have e3: ∀ code,(Instr.sliceBound (.int k1 (lo.getD 0)) (hi.getD len).toNat code).run P w= .ok (lo.getD 0).toNat w:=fun code=>run_sliceBound' w k1 _ _ code h1 (by omega)
 cases lo<;>cases hi<;>cases mx<;>simp only [Option.getD_some,Option.getD_none,Option.isSome_some,Option.isSome_none,Bool.false_eq_true,forall_const,imp_self,Int.toNat_natCast]at hm e1 e2 e3 ⊢ <;>simp [Instr.sliceBounds,e1,e2,e3]
 all_goals first | rfl | (exact absurd hm (by simp))
def iu (P:Program) (o:Oper) (md:Bool) (st:Ag T):M (Ag T):=match o.op with
 | .slice t x lo hi mx=>match o.dst,st.arg [] x,CZ P t with
   | some d,some (.c (.c (.osl id))),some (_,n)=>match Db st id,MG st lo,MG st hi,MG st mx with
     | some ⟨E,l⟩,some lo',some hi',some mx'=>mIf (Nat.beq n (T.sz E)&&(mx'.isNone||hi'.isSome)) (match md with
       | true=>mIf mx'.isNone (.opt (AS (0≤lo'.getD 0∧lo'.getD 0≤hi'.getD (l.length:Nat)∧hi'.getD (l.length:Nat)≤(l.length:Nat)∧0<l.length)) fun _=> .ret (st.put (some d) (.c (.bs id E (lo'.getD 0) (hi'.getD (l.length:Nat) - lo'.getD 0)))))
       | false=> .opt (AS (0≤lo'.getD 0∧lo'.getD 0≤hi'.getD (l.length:Nat)∧hi'.getD (l.length:Nat)≤mx'.getD (l.length:Nat)∧mx'.getD (l.length:Nat)≤(l.length:Nat))) fun _=> .ret (st.put (some d) (.c (.c .any))))
     | _,_,_,_=> .no
   | some d,some (.c (.bs id E0 o0 n0)),some (_,n)=>match Db st id,MG st lo,MG st hi,MG st mx with
     | some ⟨E,l⟩,some lo',some hi',some none=>mIf (Nat.beq n (T.sz E)&&Nat.beq E0 E) (.opt (AS (o0=0∧0≤lo'.getD 0∧lo'.getD 0≤hi'.getD (n0.toNat:Nat)∧hi'.getD (n0.toNat:Nat)≤(l.length:Nat)∧0<l.length)) fun _=> .ret (st.put (some d) (.c (.bs id E (lo'.getD 0) (hi'.getD (n0.toNat:Nat) - lo'.getD 0)))))
     | _,_,_,_=> .no
   | _,_,_=> .no
 | _=> .no
theorem R.rowFacts {F:Fr} {st:Ag T} {a:Act} {w:World} {G:Ay} (hR:R F st.toSt a w G) {id:Ah} {E:Nat} {l:List (T.den E)} (h:Db st id=some ⟨E,l⟩): ∃ v,G.own id=some v∧((∃ p,v= .slice p 0 0∧l.length=0)∨
 ∃ b cap cur,v= .slice (some ⟨b,0,none⟩) l.length cap∧G.blk id=some b∧w.heap[b]? =some (.cells cur E (0,0))∧l.length≤cap∧cap≤maxLen∧cur.size=cap*T.sz E∧Ak w G (l.flatMap (T.enc E)) b 0):=by
 obtain⟨h1,_⟩:=BF h
 obtain⟨hm,_⟩:=A0 h1
 have hE:=hR.store _ hm
 unfold AX at hE
 obtain⟨_,v,e1,e2⟩:=hE
 refine⟨v,e1,?_⟩
 rcases e2 with ⟨p,q1,q2,_⟩ | ⟨b,cap,cur,q1,q2,q3,q4,q5,q6,q7⟩
 ·exact .inl ⟨p,q1,q2⟩
 ·exact .inr ⟨b,cap,cur,q1,q2,q3,q4,q5,q6,q7⟩
theorem aZ {H:At T} {P:Program} {I:World→Prop} {st:Ag T} (hw:AB H st) {o:Oper} {md:Bool}:Yl (iu P o md st) (fun st'=>(∃ H',Nx H st H' st')∧st'.pre=st.pre∧kG P I o st.toSt st'.toSt):=by
 unfold iu
 split
 ·rename_i t x lo hi mx hop
  split
  ·rename_i d id e n hd hx ht
   split
   ·rename_i E l lo' hi' mx' hr q1 q2 q3
    refine Yl.mIf fun hg=>?_
    simp only [Bool.and_eq_true,Nat.beq_eq,Bool.or_eq_true]at hg
    obtain⟨g1,g2⟩:=hg
    obtain⟨a1,a2,a3⟩:=Hv hw hx
    obtain⟨hu,inf,hi1,hsz⟩:=Dp ht
    have hm:mx'.isSome=true→hi'.isSome=true:=fun q=>by
     rcases g2 with g2 | g2
     ·cases mx'<;>simp at g2 q
     ·exact g2
    have run: ∀ {F:Fr} {a:Act} {w:World} {G:Ay},R F st.toSt a w G→ ∀ len cap (ad:Option Addr),a.eval x= .slice ad len cap→0≤lo'.getD 0→lo'.getD 0≤hi'.getD len→hi'.getD len≤mx'.getD cap→mx'.getD cap≤cap→ ∀ w',(execOp a.eval o).run P w'= .ok (.value (.slice (if(mx'.getD cap).toNat =(lo'.getD 0).toNat then ad else ad.map (·.add ((lo'.getD 0).toNat *n))) ((hi'.getD len).toNat - (lo'.getD 0).toNat) ((mx'.getD cap).toNat - (lo'.getD 0).toNat))) w':=by
     intro F a w G hR len cap ad hv b1 b2 b3 b4 w'
     obtain⟨k1,e1⟩:=FE hw q1 hR
     obtain⟨k2,e2⟩:=FE hw q2 hR
     obtain⟨k3,e3⟩:=FE hw q3 hR
     have hs:=aY (P:=P) len cap k1 k2 k3 lo' hi' mx' hm b1 b2 b3 b4 w'
     simp [execOp,hop,e1,e2,e3,hv,Instr.sliceAt,Instr.slice,Sem.run_bind,run_underlying hu,hs,sizeOf,typeInfo,program,Sem.run,hi1,hsz]
    split
    ·refine Yl.mIf fun hmx=>Yl.opt fun u hn=>Yl.ret ?_
     have hn:=CQ hn
     have hmx:mx'=none:=by cases mx' with | none=>rfl | some _=>simp at hmx
     subst hmx
     obtain⟨H1,n1⟩:=Ag.put_nx hw (some d) (v:= .c (.bs id E (lo'.getD 0) (hi'.getD (l.length:Nat) - lo'.getD 0))) (by simp only [DV.ok,DC.ok];omega)
     refine⟨⟨H1,n1⟩,AL _ _ _,fun Fr a w G hI hR=>?_⟩
     have hxv:=hR.arg rfl a2
     rw [a3]at hxv
     simp only [DV.toV,DC.toC,Ab,Ad]at hxv
     obtain⟨v,v1,v2⟩:=hR.rowFacts hr
     rw [hxv.1]at v1
     injection v1 with v1
     rcases v2 with ⟨p,_,v2⟩ | ⟨b,cap,cur,rfl,v3,v4,v5,v6,v7,v8⟩
     ·omega
     ·have hs:=run hR l.length cap _ v1 hn.1 hn.2.1 (by simp only [Option.getD_none];omega) (by simp)
      refine⟨_,G,fun w' _=>hs w',?_⟩
      rw [hd,Ag.put_toSt]
      refine hR.put ?_
      simp only [DV.toV,DC.toC,Ab,Ad]
      refine⟨b,l.length,cap,(if cap=(lo'.getD 0).toNat then 0 else(lo'.getD 0).toNat *n),cap - (lo'.getD 0).toNat,by rw [hxv.1,v1],?_,?_,by omega,fun hlt=>?_⟩
      ·simp only [Option.getD_none,Int.toNat_natCast]
       rw [show (hi'.getD (l.length:Nat) - lo'.getD 0).toNat =(hi'.getD (l.length:Nat)).toNat - (lo'.getD 0).toNat by omega]
       congr 1
       split
       ·rfl
       ·simp [Addr.add_mid]
      ·omega
      ·rw [if_neg (by omega),g1]
    ·refine Yl.opt fun u hn=>Yl.ret ?_
     have hn:=CQ hn
     obtain⟨H1,n1⟩:=Ag.put_nx hw (some d) (v:= .c (.c .any)) (by simp only [DV.ok,DC.ok])
     refine⟨⟨H1,n1⟩,AL _ _ _,fun Fr a w G hI hR=>?_⟩
     have hxv:=hR.arg rfl a2
     rw [a3]at hxv
     simp only [DV.toV,DC.toC,Ab,Ad]at hxv
     obtain⟨v,v1,v2⟩:=hR.rowFacts hr
     rw [hxv.1]at v1
     injection v1 with v1
     have hsl: ∃ ad cap,a.eval x= .slice ad l.length cap∧l.length≤cap:=by
      rcases v2 with ⟨p,q,v2⟩ | ⟨b,cap,cur,q,v3,v4,v5,v6,v7,v8⟩
      ·exact⟨p,0,by rw [v1,q,v2],by omega⟩
      ·exact⟨_,cap,by rw [v1,q],v5⟩
     obtain⟨ad,cap,hsl,hlc⟩:=hsl
     have hs:=run hR l.length cap ad hsl hn.1 hn.2.1 (by
      cases mx' with
      | none=>simp only [Option.getD_none]at hn ⊢;omega
      | some m=>simp only [Option.getD_some]at hn ⊢;omega) (by
      cases mx' with
      | none=>simp
      | some m=>simp only [Option.getD_some]at hn ⊢;omega)
     refine⟨_,G,fun w' _=>hs w',?_⟩
     rw [hd,Ag.put_toSt]
     refine hR.put ?_
     simp only [DV.toV,DC.toC,Ab,Ad]
     rfl
   ·exact Yl.no
  ·rename_i d id E0 o0 n0 e n hd hx ht
   split
   ·rename_i E l lo' hi' hr q1 q2 q3
    refine Yl.mIf fun hg=>Yl.opt fun u hn=>Yl.ret ?_
    simp only [Bool.and_eq_true,Nat.beq_eq]at hg
    obtain⟨g1,g2⟩:=hg
    subst g2
    have hn:=CQ hn
    obtain⟨a1,a2,a3⟩:=Hv hw hx
    simp only [DV.ok,DC.ok]at a1
    obtain⟨hu,inf,hi1,hsz⟩:=Dp ht
    obtain⟨H1,n1⟩:=Ag.put_nx hw (some d) (v:= .c (.bs id E0 (lo'.getD 0) (hi'.getD (n0.toNat:Nat) - lo'.getD 0))) (by simp only [DV.ok,DC.ok];omega)
    refine⟨⟨H1,n1⟩,AL _ _ _,fun Fr a w G hI hR=>?_⟩
    have hxv:=hR.arg rfl a2
    rw [a3]at hxv
    simp only [DV.toV,DC.toC,Ab,Ad]at hxv
    obtain⟨b1,len0,cap0,o1,cap1,x1,x2,x3,x4,x5⟩:=hxv
    obtain⟨v,v1,v2⟩:=hR.rowFacts hr
    rw [x1]at v1
    injection v1 with v1
    rcases v2 with ⟨p,_,v2⟩ | ⟨b,cap,cur,q,v3,v4,v5,v6,v7,v8⟩
    ·omega
    ·rw [q]at v1
     injection v1 with z1 z2 z3
     injection z1 with z1
     injection z1 with z1
     subst z1 z2 z3
     have ho1:o1=0:=by rw [x5 (by omega),hn.1];simp
     subst ho1
     have hc1:cap1=cap0:=by have:=hn.1;omega
     subst hc1
     obtain⟨k1,e1⟩:=FE hw q1 hR
     obtain⟨k2,e2⟩:=FE hw q2 hR
     obtain⟨k3,e3⟩:=FE hw q3 hR
     have hs:=fun w'=>aY (P:=P) n0.toNat cap1 k1 k2 k3 lo' hi' none (by simp) hn.2.1 hn.2.2.1 (by simp only [Option.getD_none];omega) (by simp) w'
     refine⟨.slice (if cap1=(lo'.getD 0).toNat then some ⟨b1,0,none⟩else(some (⟨b1,0,none⟩:Addr)).map (·.add ((lo'.getD 0).toNat *n))) ((hi'.getD (n0.toNat:Nat)).toNat - (lo'.getD 0).toNat) (cap1 - (lo'.getD 0).toNat),G,fun w' _=>?_,?_⟩
     ·have hsw:=hs w'
      simp only [Option.getD_none,Int.toNat_natCast,Option.map_none]at hsw e3
      simp [execOp,hop,e1,e2,e3,x2,Instr.sliceAt,Instr.slice,Sem.run_bind,run_underlying hu,hsw,sizeOf,typeInfo,program,Sem.run,hi1,hsz]
     ·rw [hd,Ag.put_toSt]
      refine hR.put ?_
      simp only [DV.toV,DC.toC,Ab,Ad]
      refine⟨b1,l.length,cap1,(if cap1=(lo'.getD 0).toNat then 0 else(lo'.getD 0).toNat *n),cap1 - (lo'.getD 0).toNat,x1,?_,?_,by omega,fun hlt=>?_⟩
      ·rw [show (hi'.getD (n0.toNat:Nat) - lo'.getD 0).toNat =(hi'.getD (n0.toNat:Nat)).toNat - (lo'.getD 0).toNat by omega]
       congr 1
       split
       ·rfl
       ·simp [Addr.add_mid]
      ·omega
      ·rw [if_neg (by omega),g1]
   ·exact Yl.no
  ·exact Yl.no
 ·exact Yl.no
end Go.PL
set_option linter.all false
namespace Go.PL
open Go Go.RowKit
variable {T:Be}
theorem XU {α:Type} {f:α→List C} {n:Nat} (hf: ∀ x,(f x).length =n) (l:List α):(l.flatMap f).length =l.length*n:=Bo hf l
theorem R.rowStored {F:Fr} {st:Ag T} {H:At T} {a:Act} {w:World} {G:Ay} (hR:R F st.toSt a w G) (hw:AB H st) {id:Ah} {E:Nat} {l m:List (T.den E)} (h:Db st id=some ⟨E,l⟩) {b:Nat} (hb:G.blk id=some b) {off:Nat} {xs:List C} {vs:List Value} (hx:Ai w G xs vs) (hp:Ao xs=true) (hml:m.length=l.length)
 (hm:(l.flatMap (T.enc E)).take off++xs++(l.flatMap (T.enc E)).drop (off+xs.length)=m.flatMap (T.enc E)) (hoff:off+xs.length≤l.length*T.sz E):
 ∃ cur T',w.heap[b]? =some (.cells cur T' (0,0))∧off+vs.length≤cur.size∧R F (st.setX id (.row E m)).toSt a (w.setRow b (cur.toList.take off++vs++cur.toList.drop (off+vs.length)).toArray) G:=by
 obtain⟨h1,_,e,e1,e2,e3⟩:=BF h
 obtain⟨cur,T',c1,c2,c3⟩:=hR.stored h1 hb (off:=off) hx (by rw [XU (fun y=>AD E y)];exact hoff)
 refine⟨cur,T',c1,c2,?_⟩
 have:=Ag.setX_toSt hw e1 e2 (x:= .row E m) (cs:=m.flatMap (T.enc E)) (q:=Ao xs) (by
  rw [DE.toE_row e3,e2,hp]
  show (⟨id,some (E,T.sz E,l.length),m.flatMap (T.enc E),true&&true⟩:As)=⟨id,some (E,T.sz E,m.length),m.flatMap (T.enc E),true⟩
  rw [hml];rfl)
 rw [this, ←hm]
 exact c3
def kK (P:Program) (o:Oper) (st:Ag T):M (Ag T):=match o.op with
 | .call c=>match c.callee,c.args.toList,c.argTypes.toList with
   | .builtin .clear,[x],[t]=>match st.arg [] x,CZ P t with
     | some (.c (.bs id E0 o0 n0)),some (e,n)=>match Db st id,LD P e with
       | some ⟨E,l⟩,some z=>match dl false E z with
         | some z0=>mIf (Nat.beq n (T.sz E)&&(Nat.beq z.length n&&(Nat.beq E0 E&&Nat.blt 0 n))) (.opt (AS (o0+n0≤(l.length:Nat)∧0<l.length)) fun _=>
          .ret ((st.setX id (.row E (l.take o0.toNat++(List.replicate n0.toNat z0++l.drop (o0.toNat+n0.toNat))))).put o.dst (.tup [])))
         | none=> .no
       | _,_=> .no
     | _,_=> .no
   | _,_,_=> .no
 | _=> .no
theorem LT {α:Type} {f:α→List C} (z:α): ∀ n:Nat,(List.replicate n z).flatMap f=B0 (f z) n
 | 0=>by simp [B0]
 | n+1=>by rw [List.replicate_succ,List.flatMap_cons,LT z n,Ov]
theorem iw {H:At T} {P:Program} {I:World→Prop} {st:Ag T} (hw:AB H st) {o:Oper}:Yl (kK P o st) (fun st'=>(∃ H',Nx H st H' st')∧st'.pre=st.pre∧ ∀ K:St→Prop,K st'.toSt→Eg P I o st.toSt K):=by
 unfold kK
 split
 ·rename_i c hop
  split
  ·rename_i x t hcal hargs htys
   split
   ·rename_i id E0 o0 n0 e n hx ht
    split
    ·rename_i E l z hr hz
     split
     ·rename_i z0 hz0
      refine Yl.mIf fun hg=>Yl.opt fun u hn=>Yl.ret ?_
      simp only [Bool.and_eq_true,Nat.beq_eq,Nat.blt_eq]at hg
      obtain⟨g1,g2,g3,g4⟩:=hg
      subst g1 g3
      have hn:=CQ hn
      obtain⟨a1,a2,a3⟩:=Hv hw hx
      simp only [DV.ok,DC.ok]at a1
      obtain⟨hu,inf,hi1,hsz⟩:=Dp ht
      obtain⟨z1,z2⟩:=F8 hz
      obtain⟨inf2,zv,hi2,hzv,hzc⟩:=G5 z1
      rw [hi1]at hi2;injection hi2 with hi2;subst hi2
      have hzE:Aq z=T.enc E0 z0:=(F2 hz0).2 rfl
      obtain⟨H1,n1⟩:=Ag.setX_nx hw id (x:= .row E0 (l.take o0.toNat++(List.replicate n0.toNat z0++l.drop (o0.toNat+n0.toNat)))) trivial
      obtain⟨H2,n2⟩:=Ag.put_spec n1 o.dst (v:= .tup []) (by simp [DV.ok,Cn])
      refine⟨⟨H2,n2⟩,by rw [AL];rfl,fun K hK Fr a w G Q hI hR=>?_⟩
      have hxv:=hR.arg rfl a2
      rw [a3]at hxv
      simp only [DV.toV,DC.toC,Ab,Ad]at hxv
      obtain⟨b1,len0,cap0,o1,cap1,x1,x2,x3,x4,x5⟩:=hxv
      obtain⟨v,v1,v2⟩:=hR.rowFacts hr
      rw [x1]at v1
      injection v1 with v1
      rcases v2 with ⟨p,_,v2⟩ | ⟨b,cap,cur,q,v3,v4,v5,v6,v7,v8⟩
      ·omega
      rw [q]at v1
      injection v1 with y1 y2 y3
      injection y1 with y1
      injection y1 with y1
      subst y1 y2 y3
      have hzz:Ai w G (B0 (T.enc E0 z0) n0.toNat) (Builtin.zeroCells zv.cells n0.toNat).toList :=by
       have hzl:=Fn (w:=w) (G:=G) hzc
       rw [hzE]at hzl
       exact Kv hzl (by rw [AD];exact g4) n0.toNat
      have hlen:(B0 (T.enc E0 z0) n0.toNat).length =n0.toNat*T.sz E0:=by rw [←LT,XU (fun y=>AD E0 y),List.length_replicate]
      have hle:o0.toNat*T.sz E0+n0.toNat*T.sz E0≤l.length*T.sz E0:=by rw [←Nat.add_mul];exact Nat.mul_le_mul_right _ (by omega)
      obtain⟨cur',T',c1,c2,c3⟩:=R.rowStored (m:=l.take o0.toNat++(List.replicate n0.toNat z0++l.drop (o0.toNat+n0.toNat))) hR hw hr v3 (off:=o0.toNat*T.sz E0) hzz (Ok (by rw [←hzE];have:=CL (T:=T) (.s E0) z0;rw [hzE];simpa only [DB,V.pure] using this) _) (by simp;omega) (by
       rw [hlen,List.flatMap_append,List.flatMap_append,LT, ←Fu (fun y=>AD E0 y), ←GP (fun y=>AD E0 y),List.append_assoc,Nat.add_mul]) (by rw [hlen];exact hle)
      have ea:c.args= #[x]:=by apply Array.ext';simpa using hargs
      have et:c.argTypes= #[t]:=by apply Array.ext';simpa using htys
      have hzr:(zeroValue e).run P w= .ok zv w:=by simp [zeroValue,typeInfo,program,Sem.run,hi1,hzv]
      have hone:=Ai.one hzz
      by_cases h0:n0.toNat=0
      ·have hnil:(Builtin.zeroCells zv.cells n0.toNat).toList =[]:=by rw [h0];simp [Builtin.zeroCells]
       have hrun:(execOp a.eval o).run P w= .ok (.value (.tuple #[])) w:=by
        simp [execOp,hop,resolve,hcal,ea,et,invoke,builtin,Builtin.clear_,Sem.run_bind,run_underlying hu,x2,h0]
       rw [hnil]at c3
       have hself:w.setRow b1 (cur'.toList.take (o0.toNat*T.sz E0)++([]:List Value)++cur'.toList.drop (o0.toNat*T.sz E0+([]:List Value).length)).toArray =w:=by
        simp only [List.append_nil,List.length_nil,Nat.add_zero,List.take_append_drop,Array.toArray_toList]
        exact setRow_self w b1 cur' T' (0,0) c1
       rw [hself]at c3
       exact AM hrun ⟨_,G,hK,by rw [Ag.put_toSt];exact c3.put (by simp only [DV.toV,AO,Ab,Ap];exact⟨#[],rfl,rfl⟩)⟩
      ·have ho1:o1=o0.toNat*T.sz E0:=x5 (by omega)
       have hst:=run_storeCells_at P b1 (o0.toNat*T.sz E0) T' (Builtin.zeroCells zv.cells n0.toNat).toList 0 cur' w c1 (by simpa using c2) hone
       simp only [Nat.add_zero]at hst
       generalize hw1:w.setRow b1 _=w1 at hst c3
       have hrun:(execOp a.eval o).run P w= .ok (.value (.tuple #[])) w1:=by
        have h0':n0.toNat ≠ 0:=h0
        obtain⟨k,hk⟩:=Nat.exists_eq_succ_of_ne_zero h0'
        rw [hk]at hst
        simp [execOp,hop,resolve,hcal,ea,et,invoke,builtin,Builtin.clear_,Sem.run_bind,run_underlying hu,x2,hk,hzr,ho1,hst]
       exact AM hrun ⟨_,G,hK,by rw [Ag.put_toSt];exact c3.put (by simp only [DV.toV,AO,Ab,Ap];exact⟨#[],rfl,rfl⟩)⟩
     ·exact Yl.no
    ·exact Yl.no
   ·exact Yl.no
  ·exact Yl.no
 ·exact Yl.no
def kL (P:Program) (o:Oper) (st:Ag T):M (Ag T):=match o.op with
 | .call c=>match o.dst,c.callee,c.args.toList,c.argTypes.toList with
   | some d, .builtin .append,[x,y],[t,t']=>match st.arg [] x,st.arg [] y,CZ P t with
     | some (.c (.bs id E0 o0 i)),some (.c (.bs id2 E2 j m)),some (e,n)=>match Db st id with
       | some ⟨E,l⟩=>mIf ((A1 id2 id&&(Nat.beq t t'&&Nat.beq e E))&&(Nat.beq n (T.sz E)&&(Nat.beq E0 E&&Nat.beq E2 E))) (.opt (AS (o0=0∧i+m≤(l.length:Nat)∧j+m≤(l.length:Nat)∧0<l.length)) fun _=>
        .ret ((st.setX id (.row E (l.take i.toNat++((l.drop j.toNat).take m.toNat++l.drop (i.toNat+m.toNat))))).put (some d) (.c (.bs id E 0 (i+m)))))
       | none=> .no
     | _,_,_=> .no
   | _,_,_,_=> .no
 | _=> .no
theorem iy {H:At T} {P:Program} {I:World→Prop} {st:Ag T} (hw:AB H st) {o:Oper}:Yl (kL P o st) (fun st'=>(∃ H',Nx H st H' st')∧st'.pre=st.pre∧ ∀ K:St→Prop,K st'.toSt→Eg P I o st.toSt K):=by
 unfold kL
 split
 ·rename_i c hop
  split
  ·rename_i d x y t t' hd hcal hargs htys
   split
   ·rename_i id E0 o0 i id2 E2 j m e n hx hy ht
    split
    ·rename_i E l hr
     refine Yl.mIf fun hg=>Yl.opt fun u hn=>Yl.ret ?_
     simp only [Bool.and_eq_true,Nat.beq_eq]at hg
     obtain⟨⟨g0,gt,ge⟩,g1,g2,g3⟩:=hg
     have g0:=(Az.1 g0).symm
     subst g0 gt g1 g2 g3 ge
     have hn:=CQ hn
     obtain⟨a1,a2,a3⟩:=Hv hw hx
     obtain⟨b1,b2,b3⟩:=Hv hw hy
     simp only [DV.ok,DC.ok]at a1 b1
     obtain⟨hu,inf,hi1,hsz⟩:=Dp ht
     obtain⟨H1,n1⟩:=Ag.setX_nx hw id (x:= .row e (l.take i.toNat++((l.drop j.toNat).take m.toNat++l.drop (i.toNat+m.toNat)))) trivial
     obtain⟨H2,n2⟩:=Ag.put_spec n1 (some d) (v:= .c (.bs id e 0 (i+m))) (by simp only [DV.ok,DC.ok];omega)
     refine⟨⟨H2,n2⟩,by rw [AL];rfl,fun K hK Fr a w G Q hI hR=>?_⟩
     have hxv:=hR.arg rfl a2
     rw [a3]at hxv
     simp only [DV.toV,DC.toC,Ab,Ad]at hxv
     obtain⟨c1,len0,cap0,o1,cap1,x1,x2,x3,x4,x5⟩:=hxv
     have hyv:=hR.arg rfl b2
     rw [b3]at hyv
     simp only [DV.toV,DC.toC,Ab,Ad]at hyv
     obtain⟨c1',len0',cap0',o2,cap2,y1,y2,y3,y4,y5⟩:=hyv
     rw [x1]at y1
     injection y1 with y1
     injection y1 with w1 w2 w3
     injection w1 with w1
     injection w1 with w1
     subst w1 w2 w3
     obtain⟨v,v1,v2⟩:=hR.rowFacts hr
     rw [x1]at v1
     injection v1 with v1
     rcases v2 with ⟨p,_,v2⟩ | ⟨b,cap,cur,q,v3,v4,v5,v6,v7,v8⟩
     ·omega
     rw [q]at v1
     injection v1 with k1 k2 k3
     injection k1 with k1
     injection k1 with k1
     subst k1 k2 k3
     have ho1:o1=0:=by rw [x5 (by omega),hn.1];simp
     have hc1:cap1=cap0:=by have:=hn.1;omega
     subst ho1 hc1
     obtain⟨us,u1,u2⟩:=v8.list
     have hul:us.length=l.length*T.sz e:=by rw [←u1.length,XU (fun y=>AD e y)]
     have hmv:Ai w G (((l.drop j.toNat).take m.toNat).flatMap (T.enc e)) ((us.drop (j.toNat*T.sz e)).take (m.toNat*T.sz e)):=by
      rw [←Fu (fun y=>AD e y), ←GP (fun y=>AD e y)]
      exact(u1.drop _).take _
     have hjm:j.toNat*T.sz e+m.toNat*T.sz e≤l.length*T.sz e:=by rw [←Nat.add_mul];exact Nat.mul_le_mul_right _ (by omega)
     have him:i.toNat*T.sz e+m.toNat*T.sz e≤l.length*T.sz e:=by rw [←Nat.add_mul];exact Nat.mul_le_mul_right _ (by omega)
     have hnl:((us.drop (j.toNat*T.sz e)).take (m.toNat*T.sz e)).length =m.toNat*T.sz e:=by rw [List.length_take,List.length_drop];omega
     have hxl:(((l.drop j.toNat).take m.toNat).flatMap (T.enc e)).length =m.toNat*T.sz e:=by rw [hmv.length,hnl]
     have hpure:Ao (((l.drop j.toNat).take m.toNat).flatMap (T.enc e))=true:=AF _ (fun y=>by have:=CL (T:=T) (.s e) y;simpa only [DB,V.pure] using this) _
     obtain⟨cur',T',s1,s2,s3⟩:=R.rowStored (m:=l.take i.toNat++((l.drop j.toNat).take m.toNat++l.drop (i.toNat+m.toNat))) hR hw hr v3 (off:=i.toNat*T.sz e) hmv hpure (by simp;omega) (by
      rw [hxl,List.flatMap_append,List.flatMap_append, ←Fu (fun y=>AD e y) l i.toNat, ←GP (fun y=>AD e y) l (i.toNat+m.toNat),List.append_assoc,Nat.add_mul]) (by rw [hxl];exact him)
     rw [v4]at s1
     injection s1 with s1
     injection s1 with s1 s1' _
     subst s1 s1'
     have hsrc: ∀ jj u',((us.drop (j.toNat*T.sz e)).take (m.toNat*T.sz e))[jj]? =some u'→w.cell? ((⟨c1,o2,none⟩:Addr).add jj)=some u':=by
      intro jj u' hj
      have hlt:jj<m.toNat*T.sz e:=by rw [←hnl];exact(List.getElem?_eq_some_iff.1 hj).1
      have hm0:0<m.toNat:=by
       rcases Nat.eq_zero_or_pos m.toNat with q | q
       ·rw [q]at hlt;simp at hlt
       ·exact q
      have ho2:o2=j.toNat*T.sz e:=y5 (by omega)
      rw [List.getElem?_take,if_pos hlt,List.getElem?_drop]at hj
      have:=u2 _ _ hj
      rw [Addr.add_mid,ho2]
      simpa using this
     have hrun0:=run_append_room (P:=P) w t o.type e inf hu hi1 c1 i.toNat cap1 cur v4 ⟨c1,o2,none⟩ m.toNat cap2 ((us.drop (j.toNat*T.sz e)).take (m.toNat*T.sz e)) (by rw [hnl,hsz]) hsrc (Ai.one hmv) (by omega) (by rw [hnl,hsz];rw [hnl]at s2;exact s2)
     rw [hsz]at hrun0
     have ea:c.args= #[x,y]:=by apply Array.ext';simpa using hargs
     have et:c.argTypes= #[t,t]:=by apply Array.ext';simpa using htys
     generalize w.setRow c1 _=w1 at hrun0 s3
     have hrun:(execOp a.eval o).run P w= .ok (.value (.slice (some ⟨c1,0,none⟩) (i.toNat+m.toNat) cap1)) w1:=by
      simp [execOp,hop,resolve,hcal,ea,et,invoke,builtin,x2,y2,hrun0]
     refine AM hrun ⟨_,G,hK,?_⟩
     rw [hd,Ag.put_toSt]
     refine s3.put ?_
     simp only [DV.toV,DC.toC,Ab,Ad]
     exact⟨c1,l.length,cap1,0,cap1,x1,by rw [show (i+m).toNat =i.toNat+m.toNat by omega],by omega,by simp,fun _=>by simp⟩
    ·exact Yl.no
   ·exact Yl.no
  ·exact Yl.no
 ·exact Yl.no
end Go.PL
set_option linter.all false
namespace Go.PL
open Go Go.RowKit
variable {T:Be}
def nP (d:Nat) (st:Ag T):M (Ag T):=match st.get d with
 | .c (.bs id E0 o n)=>match Db st id with
   | some ⟨E,l⟩=>mIf (Nat.beq E0 E) (.opt (AS (o=0∧n≤(l.length:Nat)∧0<l.length)) fun _=>match st.new id (.row E (l.take n.toNat))with
     | some s=> .ret (s.put (some d) (.c (.c (.osl id))))
     | none=> .no)
   | none=> .no
 | _=> .no
theorem kM {H:At T} {st:Ag T} (hw:AB H st) {d:Nat}:Yl (nP d st) (fun st'=>(∃ H',Nx H st H' st')∧st'.pre=st.pre∧Wk st.toSt st'.toSt):=by
 unfold nP
 split
 ·rename_i id E0 o n hs
  split
  ·rename_i E l hr
   refine Yl.mIf fun hg=>Yl.opt fun u hn=>?_
   have hg:=Nat.eq_of_beq_eq_true hg
   subst hg
   have hn:=CQ hn
   have hok:=Ag.get_ok hw d
   rw [hs]at hok
   simp only [DV.ok,DC.ok]at hok
   split
   ·rename_i s hnew
    refine Yl.ret ?_
    obtain⟨⟨H1,n1⟩,h2,h3⟩:=Ag.new_spec hw (x:= .row E0 (l.take n.toNat)) trivial hnew
    obtain⟨H2,n2⟩:=Ag.put_spec n1 (some d) (v:= .c (.c (.osl id))) (by simp only [DV.ok,DC.ok])
    refine⟨⟨H2,n2⟩,by rw [AL];exact h3,fun F a w G hR=>?_⟩
    have hsl:=hR.slots d
    have hge:=st.get_toSt d
    rw [hs]at hge
    have hsl:Ab w G (st.toSt.get d) (a.tmps.getD d Go.undef):=hsl
    rw [hge]at hsl
    simp only [DV.toV,DC.toC,Ab,Ad]at hsl
    obtain⟨b1,len0,cap0,o1,cap1,x1,x2,x3,x4,x5⟩:=hsl
    obtain⟨v,v1,v2⟩:=hR.rowFacts hr
    rw [x1]at v1
    injection v1 with v1
    rcases v2 with ⟨p,_,v2⟩ | ⟨b,cap,cur,q,v3,v4,v5,v6,v7,v8⟩
    ·omega
    rw [q]at v1
    injection v1 with k1 k2 k3
    injection k1 with k1
    injection k1 with k1
    subst k1 k2 k3
    have ho1:o1=0:=by rw [x5 (by omega),hn.1];simp
    have hc1:cap1=cap0:=by have:=hn.1;omega
    subst ho1 hc1
    have hpure:Ao ((l.take n.toNat).flatMap (T.enc E0))=true:=AF _ (fun y=>by have:=CL (T:=T) (.s E0) y;simpa only [DB,V.pure] using this) _
    have hlt:b1<w.heap.size:=(Array.getElem?_eq_some_iff.1 v4).1
    have hset:=hR.set ⟨id,some (E0,T.sz E0,(l.take n.toNat).length),(l.take n.toNat).flatMap (T.enc E0),true⟩ (some b1) (some (a.tmps.getD d Go.undef)) ⟨rfl,rfl,rfl⟩ (Nat.le_refl _) (fun _ _ _=>rfl) (fun _ _ _=>rfl) (fun b' hb'=>by
     injection hb' with hb';subst hb'
     exact⟨.inr ⟨v3,BX.same rfl⟩,hlt⟩) (fun _=>hpure) (by
     refine GZ (As.kill_row _ _) ⟨?_,a.tmps.getD d Go.undef,by simp [BS,As.kill_id], .inr ⟨b1,cap1,cur,?_,by simp [BS,As.kill_id],v4,?_,v6,v7,?_⟩⟩
     ·show ((l.take n.toNat).flatMap (T.enc E0)).length =_
      rw [XU (fun y=>AD E0 y)]
     ·rw [x2,List.length_take]
      congr 1
      omega
     ·rw [List.length_take];omega
     ·show Ak w (BS F G id (some b1) (some (a.tmps.getD d Go.undef))) ((l.take n.toNat).flatMap (T.enc E0)) b1 0
      have hk:=hR.keeps id (some b1) (some (a.tmps.getD d Go.undef)) (Nat.le_refl w.heap.size) (fun _ _ _=>rfl) (fun b' hb'=>by injection hb' with hb';subst hb';exact .inr ⟨v3,BX.same rfl⟩)
      have:=v8.take (n.toNat*T.sz E0)
      rw [Fu (fun y=>AD E0 y)]at this
      exact Ak.mono hk _ _ _ (fun i hi=>absurd (show BE i ((l.take n.toNat).flatMap (T.enc E0))=true from hi) (by rw [AG i _ hpure];simp)) (fun _=>rfl) this)
    have hl:=hset.less h2
    refine⟨BS F G id (some b1) (some (a.tmps.getD d Go.undef)),?_⟩
    rw [Ag.put_toSt]
    exact hl.reslot (by simp only [DV.toV,DC.toC,Ab,Ad];exact⟨by simp [BS],by rw [x2];rfl⟩)
   ·exact Yl.no
  ·exact Yl.no
 ·exact Yl.no
def m8 (d:Nat) (st:Ag T):M (Ag T):=match st.get d with
 | .c x=>match HX x with
   | some r=>match Db st r with
     | some ⟨E,l⟩=> .ret ((Bm [(1000003::r, .deep E 0 l none)] (st.killF (fun i=>match A1 i r with | true=>true | false=>match A1 i (1000003::r)with | true=>true | false=>Jm.ofDT (1000003::r) i))).put (some d) (.c (.c (.osl (1000003::r)))))
     | none=> .no
   | none=> .no
 | _=> .no
theorem RQ (E:Nat): ∀ (k:Int) (l:List (T.den E)),0≤k→Aw T E 0 k l=l.flatMap (T.enc E)
 | _,[],_=>rfl
 | k,x::l,h=>by rw [Aw,if_neg (by omega),RQ E (k+1) l (by omega),List.flatMap_cons]
theorem iz (E:Nat) (x:T.den E):(T.enc E x).all Yu=true:=by
 rw [←T.encok]
 have: ∀ (ks:List Kd) (y:DK T.den ks),(Bv T.enc ks y).all Yu=true:=by
  intro ks
  induction ks with
  | nil=>intro _;rfl
  | cons k ks ih=>
    intro y
    simp only [Bv,List.all_cons,Bool.and_eq_true]
    exact⟨by cases k<;>rfl,ih y.2⟩
 exact this _ _
theorem eU {H:At T} {st:Ag T} (hw:AB H st) {d:Nat}:Yl (m8 d st) (fun st'=>(∃ H',Nx H st H' st')∧st'.pre=st.pre∧Wk st.toSt st'.toSt):=by
 unfold m8
 split
 ·rename_i x hs
  split
  ·rename_i r ho
   have:=Dy ho
   subst this
   split
   ·rename_i E l hr
    refine Yl.ret ?_
    have hp:(fun i=>match A1 i r with | true=>true | false=>match A1 i (1000003::r)with | true=>true | false=>Jm.ofDT (1000003::r) i)=(fun i=>i==r||(i==1000003::r||Dm (1000003::r) i)):=by
     funext i
     rw [Cl,Cl,Jo]
     cases i==r<;>cases i==1000003::r<;>rfl
    rw [hp]
    obtain⟨⟨H1,n1⟩,k1,k2,k3,k4,k5⟩:=Ag.killF_spec hw (fun i=>i==r||(i==1000003::r||Dm (1000003::r) i))
    obtain⟨H2,n2⟩:=IP (l:=[(1000003::r,DX.deep E 0 l none)]) n1 (fun p hp=>by rcases List.mem_singleton.1 hp with rfl;trivial) (by simp) (fun p hp e he q=>by
     rcases List.mem_singleton.1 hp with rfl
     have:=k5 e he
     rw [q]at this
     simp at this)
    obtain⟨s1,s2,s3,s4,s5,_⟩:=EU [(1000003::r,DX.deep E 0 l none)] (st.killF (fun i=>i==r||(i==1000003::r||Dm (1000003::r) i)))
    obtain⟨H3,n3⟩:=Ag.put_spec n2 (some d) (v:= .c (.c (.osl (1000003::r)))) (by simp only [DV.ok,DC.ok])
    refine⟨⟨H3,n3⟩,by rw [AL,s3];exact k4,fun F a w G hR=>?_⟩
    have hsl:Ab w G (st.toSt.get d) (a.tmps.getD d Go.undef):=hR.slots d
    rw [st.get_toSt d,hs]at hsl
    simp only [DV.toV,DC.toC,Ab,Ad]at hsl
    obtain⟨q1,_,e,q2,q3,q4⟩:=BF hr
    obtain⟨G',g1,g2⟩:=hR.deepen q1 rfl rfl (by
     show ((l.flatMap (T.enc E)).all Yu)=true
     rw [List.all_eq_true]
     intro c hc
     obtain⟨y,_,hy⟩:=List.mem_flatMap.1 hc
     exact List.all_eq_true.1 (iz E y) c hy) (id:=1000003::r) rfl rfl
    refine⟨G',?_⟩
    rw [Ag.put_toSt]
    have hless:Ck (st.toSt.killP (fun i=>i==r||(i==1000003::r||Dm (1000003::r) i)) (⟨1000003::r,some (E,T.sz E,l.length),l.flatMap (T.enc E),true⟩::((st.toSt.so.filter (fun d=>d.id != r&&d.id != 1000003::r)).map (As.killP (fun i=>i==r||(i==1000003::r||Dm (1000003::r) i))))))
     (Bm [(1000003::r,DX.deep E 0 l none)] (st.killF (fun i=>i==r||(i==1000003::r||Dm (1000003::r) i)))).toSt :=by
     refine Jp ?_ ?_ ?_ (FO n2.ok) ?_
     ·have:(Bm [(1000003::r,DX.deep E 0 l none)] (st.killF (fun i=>i==r||(i==1000003::r||Dm (1000003::r) i)))).toSt.tm =(st.killF (fun i=>i==r||(i==1000003::r||Dm (1000003::r) i))).toSt.tm :=by simp only [Ag.toSt,s1,s4]
      rw [this];exact k1
     ·have:(Bm [(1000003::r,DX.deep E 0 l none)] (st.killF (fun i=>i==r||(i==1000003::r||Dm (1000003::r) i)))).toSt.gh =(st.killF (fun i=>i==r||(i==1000003::r||Dm (1000003::r) i))).toSt.gh :=by simp only [Ag.toSt,s2]
      rw [this];exact k2
     ·intro z hz
      rw [s5]at hz
      simp only [List.map_cons,List.map_nil,List.singleton_append,List.mem_cons]at hz
      simp only [St.killP,List.mem_cons,List.mem_map,List.mem_filter]
      rcases hz with rfl | hz
      ·left
       show (⟨1000003::r,some (E,T.sz E,l.length),Aw T E 0 0 l,true⟩:As)=_
       rw [RQ E 0 l (Int.le_refl _)]
      ·right
       obtain⟨d3,h3,h4,h5⟩:=NJ hw hz
       simp only [Bool.or_eq_false_iff,beq_eq_false_iff_ne]at h4
       exact⟨d3,⟨h3,by simpa using ⟨h4.1,h4.2.1⟩⟩,h5.symm⟩
     ·show (Bm _ _).pre =st.pre
      rw [s3];exact k4
    exact(g1.less hless).reslot (by simp only [DV.toV,DC.toC,Ab,Ad];exact⟨by rw [g2];exact hsl.1,hsl.2⟩)
   ·exact Yl.no
  ·exact Yl.no
 ·exact Yl.no
def Zv (id:Ah) (E:Nat) (l:List (T.den E)) (c:DC T):DC T:=match HX c with
 | some i=>match A1 i id with
   | true=> .k (.lst E) l
   | false=>Jk (fun i=>match A1 i id with | true=>true | false=>Jm.ofDT id i) c
 | none=>Jk (fun i=>match A1 i id with | true=>true | false=>Jm.ofDT id i) c
def NK (id:Ah) (E:Nat) (l:List (T.den E)):DV T→DV T
 | .c x=> .c (Zv id E l x)
 | .agg cs=> .agg (cs.map (Zv id E l))
 | _=> .u
def Zw (id:Ah) (E:Nat) (l:List (T.den E)):DX T→DX T
 | .box cs=> .box (cs.map (Zv id E l))
 | x=>x
def m9 (id i:Ah):Bool:=match A1 i id with
 | true=>true
 | false=>Jm.ofDT id i
theorem eV (id:Ah):m9 id=pF id:=by
 funext i
 unfold m9 pF
 rw [Cl,Jo]
 cases i==id<;>rfl
def Ag.frzD (st:Ag T) (id:Ah):Option (Ag T):=match Ed id with
 | false=>none
 | true=>match IE st id with
   | some ⟨E,(_,l,none)⟩=>some (let s:=st.remap (DV.menP (m9 id)) (NK id E l) (DX.menP (m9 id)) (Zw id E l);{s with so:=s.so.filter fun e=> !(A1 e.id id)})
   | _=>none
theorem RR (id:Ah) (E:Nat) (l:List (T.den E)) (c:DC T):(Zv id E l c).toC =Nm id l.length (l.flatMap (T.enc E)) c.toC:=by
 have hp:(fun i=>match A1 i id with | true=>true | false=>Jm.ofDT id i)=pF id:=eV id
 unfold Zv
 rw [hp]
 split
 ·rename_i i ho
  have:=Dy ho
  subst this
  split
  ·rename_i hb
   have:=Az.1 hb
   subst this
   simp only [DC.toC,Bd,aq]
  ·rename_i hb
   rw [Ke,P2]
   intro j hj q
   simp only [DC.toC,C.osl.injEq]at hj
   rw [Az.2 (hj.trans q)]at hb;cases hb
 ·rename_i ho
  rw [Ke,P2]
  intro j hj
  exact absurd hj (Jg ho j)
theorem Wa {id:Ah} {E:Nat} {l:List (T.den E)} {c:DC T} (h:c.ok):(Zv id E l c).ok :=by
 unfold Zv
 split
 ·split
  ·simp only [DC.ok]
  ·exact LQ h
 ·exact LQ h
theorem P8 {id:Ah} {n:Nat} {ds:List C}: ∀ {l:List C},CO (pF id) l=false→l.map (Nm id n ds)=l
 | [],_=>rfl
 | c::l,h=>by
   simp only [CO,Bool.or_eq_false_iff]at h
   rw [List.map_cons,P8 h.2,P2,Cz,if_neg (by simp [h.1])]
   intro i hi q
   subst hi q
   simp [C.menP,pF]at h
theorem iA {id:Ah} {n:Nat} {ds:List C} {v:V} (h:v.menP (pF id)=false):KT id n ds v=v:=by
 cases v with
 | c x=>
   have:=P8 (n:=n) (ds:=ds) (l:=[x]) (by simpa [CO,V.menP] using h)
   simp only [KT]
   simpa using this
 | agg cs=>simp only [KT];rw [P8 (by simpa [V.menP] using h)]
 | tup vs=>exact KK h
 | g b x=>exact KK h
 | undef=>exact KK h
theorem Wb (id:Ah) (l:List (DE T)):(l.filter fun e=> !(A1 e.id id)).map DE.toE=(l.map DE.toE).filter (fun d=>d.id != id):=filter_toE' id l
theorem cM {H:At T} {st st':Ag T} {id:Ah} (h:AB H st) (hk:st.frzD id=some st'):(∃ H',Nx H st H' st')∧Wk st.toSt st'.toSt∧st'.pre=st.pre:=by
 unfold Ag.frzD at hk
 split at hk
 ·cases hk
 ·rename_i hd
  split at hk
  ·rename_i E n l hr
   injection hk with hk
   subst hk
   rw [eV]
   obtain⟨H',hN⟩:=Ag.remap_nx (p:=DV.menP (pF id)) (f:=NK id E l) (q:=DX.menP (pF id)) (g:=Zw id E l) h (fun {H n v} hv=>by
    cases v with
    | c x=>simp only [NK,DV.ok]at hv ⊢;exact Wa hv
    | agg cs=>simp only [NK,DV.ok]at hv ⊢;exact Mz (fun _ q=>Wa q) hv
    | _=>simp only [NK,DV.ok]) (fun {x} hx=>by
    cases x with
    | box cs=>simp only [Zw,DX.ok]at hx ⊢;exact Mz (fun _ q=>Wa q) hx
    | row E l=>exact hx
    | deep E n l h=>exact hx)
   refine⟨⟨H',hN.ext,hN.le,Dw hN.ok _⟩,fun F a w G hR=>?_,rfl⟩
   obtain⟨hmk,_,e,e1,e2,e3⟩:=Ce hr
   have hE:e.toE=⟨id,some (E,T.sz E,l.length),Aw T E n 0 l,true⟩:=by unfold DE.toE;rw [e3,e2];rfl
   have hL:st.toSt.lookD id=some e.toE:=hR.lookD_of (List.mem_map.2 ⟨e,e1,rfl⟩) (by rw [hE]) hd
   obtain⟨G',g⟩:=hR.freezeD hL (by rw [hE]) (cells:=l.flatMap (T.enc E)) (by rw [hE];exact LR E n 0 l)
   refine⟨G',g.less ?_⟩
   have f1: ∀ v:DV T,v.menP (pF id)=true→(NK id E l v).toV = .undef ∨(NK id E l v).toV =KT id l.length (l.flatMap (T.enc E)) v.toV:=fun v _=>by
    cases v with
    | c x=>right;simp only [NK,DV.toV,KT,RR]
    | agg cs=>
      right
      simp only [NK,DV.toV,KT,BK,List.map_map]
      congr 1
      exact List.map_congr_left fun c _=>RR id E l c
    | _=>left;simp only [NK,DV.toV]
   have f2: ∀ v:DV T,v.menP (pF id)=false→KT id l.length (l.flatMap (T.enc E)) v.toV=v.toV:=fun v hv=>iA (DV.menP_le _ v hv)
   have sl: ∀ (m n:Nat) (tm:Tm T),Ip ((Au m tm).map (KT id l.length (l.flatMap (T.enc E)))) (Au m (KU (DV.menP (pF id)) (NK id E l) n tm)):=fun m n tm=>by
    unfold Au
    rw [List.map_map]
    refine Ip.map fun i _=>?_
    simp only [Function.comp,Jd (p:=DV.menP (pF id)) (f:=NK id E l) (by simp [DV.menP])]
    split
    ·rename_i hq;exact f1 _ hq
    ·rename_i hq;exact .inr (f2 _ hq).symm
   have gl: ∀ (g:List (Nat×Tm T)) (n:Nat),Ip ((g.flatMap fun f=>Au f.1 f.2).map (KT id l.length (l.flatMap (T.enc E)))) ((LA (DV.menP (pF id)) (NK id E l) n g).flatMap fun f=>Au f.1 f.2):=by
    intro g
    induction g with
    | nil=>intro _;trivial
    | cons x r ih=>
      intro n
      obtain⟨m,tm⟩:=x
      simp only [LA,List.flatMap_cons,List.map_append]
      exact(sl m n tm).append (ih _)
   refine Jp (sl _ _ _) (gl _ _) ?_ (FO (Dw hN.ok _)) rfl
   intro z hz
   have hz:z∈((LB (DX.menP (pF id)) (Zw id E l) (st.nx+st.tm.length+JB st.gh) st.so).filter fun e=> !(A1 e.id id)).map DE.toE:=hz
   have hF: ∀ x∈st.so,(DX.menP (pF id) x.x=true→ ∀ t,(⟨x.id,t,Zw id E l x.x⟩:DE T).toE =As.frD id l.length (l.flatMap (T.enc E)) x.toE)∧(DX.menP (pF id) x.x=false→As.frD id l.length (l.flatMap (T.enc E)) x.toE=x.toE):=by
    intro x _
    have base: ∀ t,(⟨x.id,t,Zw id E l x.x⟩:DE T).toE =As.frD id l.length (l.flatMap (T.enc E)) x.toE:=fun t=>by
     unfold DE.toE
     cases hxx:x.x with
     | box cs=>
       simp only [Zw,As.frD,BK,List.map_map,As.mk.injEq,and_true,true_and]
       exact List.map_congr_left fun c _=>RR id E l c
     | row E l=>rfl
     | deep E n l h=>rfl
    refine⟨fun _ t=>base t,fun hm=>?_⟩
    unfold DE.toE
    cases hxx:x.x with
    | box cs=>
      rw [hxx]at hm
      simp only [DX.menP,ES]at hm
      simp only [As.frD,P8 hm]
    | row E l=>rfl
    | deep E n l h=>rfl
   rw [Wb,J3 (F:=As.frD id l.length (l.flatMap (T.enc E))) _ hF]at hz
   obtain⟨h1,h2⟩:=List.mem_filter.1 hz
   obtain⟨d,h3,rfl⟩:=List.mem_map.1 h1
   refine List.mem_map.2 ⟨d,List.mem_filter.2 ⟨h3,?_⟩,rfl⟩
   have:(As.frD id l.length (l.flatMap (T.enc E)) d).id =d.id:=by obtain⟨i,r,cs,_ | _⟩:=d<;>rfl
   rw [this]at h2
   exact h2
  ·cases hk
end Go.PL
namespace Go.PL
open Go Go.RowKit
variable {T:Be}
theorem RS: ∀ {vs:List Value} {l:List C},Dh vs=some l→ ∀ v∈vs,(D7 v).isSome =true
 | [],_,_,v,hv=>by cases hv
 | x::vs,l,h,v,hv=>by
   unfold Dh at h
   split at h
   ·rename_i c cs h1 h2
    rcases List.mem_cons.1 hv with rfl | hv
    ·rw [h1];rfl
    ·exact RS h2 v hv
   ·cases h
theorem XV {P:Program} {st:St} {w:World} {G:Ay} {d:Nat} {t:TypeId} {l c:V} {u v:Value} (hx:Ab w G l u) (hy:Ab w G c v) (hs:(HQ P st d t l c).1) {r:Value} {w':World} (hr:(Instr.makeSlice t u v).run P w= .ok r w'):
 ∃ len cap,r= .slice (some ⟨w.heap.size,0,none⟩) len cap∧ ∀ k v,w'.cell? ⟨w.heap.size,k,none⟩=some v→(D7 v).isSome =true:=by
 unfold HQ at hs
 split at hs
 ·rename_i k1 l k2 c E n by' hsel
  split at hs
  ·rename_i z hz
   obtain⟨h0,h1,h2,h3,h4,h5⟩:=hs
   obtain⟨i,zv,hu,hi,hzv,hsz,hby,hzs⟩:=EG hsel
   obtain⟨i',zv',hi',hzv',hc⟩:=G5 hz
   rw [hi]at hi';injection hi' with hi';subst hi'
   rw [hzv]at hzv';injection hzv' with hzv';subst hzv'
   have hM:maxLen=9223372036854775807:=rfl
   simp only [Ab,Ad]at hx hy
   subst hx hy
   have hrun:=run_make (P:=P) w t E i zv hu hi hzv k1 k2 l c h0 h1 (by rw [hby,Int.mul_comm];omega) (by omega)
   rw [hrun]at hr
   injection hr with hr1 hr2
   subst hr1 hr2
   refine⟨_,_,rfl,fun k v hv=>?_⟩
   have hall:=RS hc
   have hcell:(madeCells zv.cells (c.toNat*i.size))[k]? =some v:=by
    simpa [World.cell?,C2] using hv
   have hk:k<c.toNat*i.size:=by
    have:=(Array.getElem?_eq_some_iff.1 hcell).1
    simpa [madeCells] using this
   have hz0:0<zv.cells.size:=by
    rw [hsz]at hk
    have:0<n:=by
     rcases Nat.eq_zero_or_pos n with q | q
     ·rw [q,Nat.mul_zero]at hk;omega
     ·exact q
    rw [hzs];exact this
   have hv':v=zv.cells[k % zv.cells.size]! :=by
    have:(madeCells zv.cells (c.toNat*i.size))[k]? =some (zv.cells[k % zv.cells.size]!):=by
     simp [madeCells,hk]
    rw [this]at hcell
    injection hcell with hcell
    exact hcell.symm
   rw [hv']
   refine hall _ ?_
   have hlt:k % zv.cells.size<zv.cells.size:=Nat.mod_lt _ hz0
   rw [getElem!_pos zv.cells _ hlt]
   simp
  ·exact hs.elim
 ·exact hs.elim
theorem kN {w:World} {G:Ay} {n:Nat} {cs:List C} {v:Value} (h:Ad w G (.sl n cs) v) (hc:(D7 v).isSome =true):v= .slice none 0 0∧n=0∧cs=[]:=by
 simp only [Ad]at h
 obtain⟨_,a,cap,rfl,h1,_,h3,_⟩:=h
 unfold D7 at hc
 split at hc
 all_goals first
  | (rename_i q;cases q;done)
  | (rename_i q;injection q with q1 q2 q3;subst q1 q2 q3;exact⟨rfl,rfl,h3 rfl⟩)
  | (cases hc;done)
theorem RU: ∀ {ks:List Kd} {y:DK T.den ks} {p:Nat} {c:C},(BA T ks y)[p]? =some c→(∃ F n cs,c= .isl F (T.sz F) n cs∧(Bv T.enc ks y)[p]? =some (.sl n cs))∨((Bv T.enc ks y)[p]? =some c∧Yu c=true)
 | [],_,_,_,h=>by simp [BA]at h
 | k::ks,y,0,c,h=>by
   simp only [BA,List.getElem?_cons_zero,Option.some.injEq]at h
   simp only [Bv,List.getElem?_cons_zero,Option.some.injEq]
   cases k with
   | lst F=>exact .inl ⟨F,_,_,h.symm,rfl⟩
   | int _=>exact .inr ⟨h,by rw [←h];rfl⟩
   | bool=>exact .inr ⟨h,by rw [←h];rfl⟩
   | str=>exact .inr ⟨h,by rw [←h];rfl⟩
 | k::ks,y,p+1,c,h=>by
   simp only [BA,List.getElem?_cons_succ]at h
   simp only [Bv,List.getElem?_cons_succ]
   exact RU h
theorem RV {E:Nat} {n:Int}: ∀ {l:List (T.den E)} {k:Int} {j:Nat} {c:C},k+l.length≤n→(Aw T E n k l)[j]? =some c→(∃ F m cs,c= .isl F (T.sz F) m cs∧(l.flatMap (T.enc E))[j]? =some (.sl m cs))∨((l.flatMap (T.enc E))[j]? =some c∧Yu c=true)
 | [],_,_,_,_,h=>by simp [Aw]at h
 | x::l,k,j,c,hn,h=>by
   simp only [Aw,List.length_cons]at h hn
   rw [if_pos (by omega)]at h
   have hl:(T.denc E x).length =(T.enc E x).length :=by
    unfold Be.denc
    rw [←T.encok]
    have: ∀ (ks:List Kd) (y:DK T.den ks),(BA T ks y).length =(Bv T.enc ks y).length :=by
     intro ks
     induction ks with
     | nil=>intro _;rfl
     | cons k ks ih=>intro y;simp [BA,Bv,ih]
    exact this _ _
   rw [List.flatMap_cons]
   by_cases hj:j<(T.denc E x).length
   ·rw [List.getElem?_append_left hj]at h
    rw [List.getElem?_append_left (by omega), ←T.encok]
    exact RU h
   ·rw [List.getElem?_append_right (by omega)]at h
    rw [List.getElem?_append_right (by omega), ←hl]
    exact RV (by omega) h
theorem MH {E:Nat} {n:Int}: ∀ (l:List (T.den E)) (k:Int),Ao (Aw T E n k l)=true
 | [],_=>rfl
 | x::l,k=>by
   rw [Aw,Bk,MH l (k+1),Bool.and_true]
   split
   ·exact cK E x
   ·have:=CL (T:=T) (.s E) x
    simpa only [DB,V.pure] using this
def kO:Int→Bool
 | .ofNat 0=>true
 | _=>false
theorem cN {n:Int} (h:kO n=true):n=0:=by
 unfold kO at h
 split at h
 ·rfl
 ·cases h
def nQ (P:Program) (o:Oper) (st:Ag T):M (Ag T):=match o.op,o.dst with
 | .makeSlice t l c,some d=> .bnd (cj P st o) fun st1=> .bnd (m8 d st1) fun st2=>match st2.get d with
   | .c (.c (.osl id))=>match IE st2 id with
     | some ⟨E,(nn,l,none)⟩=>mIf (Ed id&&(Nat.blt d st2.m&&kO nn)) (.opt (AS (0<l.length)) fun _=> .ret ((st2.killF (Jm.ofDT id)).setX id (.deep E (List.length l:Nat) l none)))
     | _=> .no
   | _=> .no
 | _,_=> .no
theorem kP {H:At T} {P:Program} {I:World→Prop} {st:Ag T} (hw:AB H st) {o:Oper}:Yl (nQ P o st) (fun st'=>(∃ H',Nx H st H' st')∧st'.pre=st.pre∧ ∀ K:St→Prop,K st'.toSt→Eg P I o st.toSt K):=by
 unfold nQ
 split
 ·rename_i t lo co d hop hd
  refine Yl.bnd (P4 hw o) fun st1 h1=>?_
  obtain⟨⟨H1,n1⟩,e1,e2,p1⟩:=h1
  refine Yl.bnd (eU n1.ok) fun st2 h2=>?_
  obtain⟨⟨H2,n2⟩,p2,w2⟩:=h2
  split
  ·rename_i id hg
   split
   ·rename_i E nn l hdr
    refine Yl.mIf fun hb=>Yl.opt fun u hu=>Yl.ret ?_
    simp only [Bool.and_eq_true,Nat.blt_eq]at hb
    obtain⟨hb1,hb2,hb3⟩:=hb
    have hnn:=cN hb3
    subst hnn
    have hlen:0<l.length:=CQ hu
    have hp:(Jm.ofDT id)=Dm id:=funext fun i=>Jo id i
    rw [hp]
    obtain⟨⟨H3,n3⟩,k1,k2,k3,k4,k5⟩:=Ag.killF_spec n2.ok (Dm id)
    obtain⟨H4,n4⟩:=Ag.setX_nx n3.ok id (x:= .deep E (List.length l:Nat) l none) trivial
    refine⟨⟨H4,((n1.trans n2).trans n3).trans n4⟩,by show (st2.killF (Dm id)).pre =st.pre;rw [show (st2.killF (Dm id)).pre =st2.pre from k4,p2,p1],fun K hK F a w G Q hI hR=>?_⟩
    have hmake:(HQ P st.toSt d t (st.toSt.arg true lo).2 (st.toSt.arg true co).2).1∧(st.toSt.arg true lo).1∧(st.toSt.arg true co).1:=by
     have:=e1
     unfold ef at this
     rw [hop,hd]at this
     exact⟨this.2.2,this.1,this.2.1⟩
    obtain⟨nx,w',G1,q1,q2⟩:=(Mj hR e1).out
    have hx:=hR.arg rfl hmake.2.1
    have hy:=hR.arg rfl hmake.2.2
    obtain⟨r0,w0,G0,m1,_⟩:=Oo (d:=d) hR hx hy hmake.1
    have hrun:(execOp a.eval o).run P w= .ok (.value r0) w0:=by
     simp [execOp,hop,m1]
    rw [hrun]at q1
    injection q1 with q1 q1'
    subst q1 q1'
    obtain⟨len,cap,rfl,hcells⟩:=XV hx hy hmake.1 m1
    have hR1:R F st1.toSt (a.put (some d) (.slice (some ⟨w.heap.size,0,none⟩) len cap)) w0 G1:=by
     rcases q2 with ⟨v,e,q⟩ | ⟨e,_⟩
     ·injection e with e;subst e;rw [hd]at q;exact q.less e2
     ·cases e
    obtain⟨G2,hR2⟩:=w2 _ _ _ _ hR1
    have hsl:Ab w0 G2 (st2.toSt.get d) ((a.put (some d) (.slice (some ⟨w.heap.size,0,none⟩) len cap)).tmps.getD d Go.undef):=hR2.slots d
    rw [st2.get_toSt d,hg]at hsl
    have hsz:d<a.tmps.size:=by
     have:=hR2.size
     simp only [Act.put,Array.size_setIfInBounds]at this
     rw [this]
     show d<(Au st2.m st2.tm).length
     rw [Bf];exact hb2
    have hpv:(a.put (some d) (.slice (some ⟨w.heap.size,0,none⟩) len cap)).tmps.getD d Go.undef= .slice (some ⟨w.heap.size,0,none⟩) len cap:=by
     simp [Act.put,Array.getD_eq_getD_getElem?,hsz]
    rw [hpv]at hsl
    simp only [DV.toV,DC.toC,Ab,Ad]at hsl
    obtain⟨hmk,hlr,e,he1,he2,he3⟩:=Ce hdr
    have hE:e.toE=⟨id,some (E,T.sz E,l.length),l.flatMap (T.enc E),true⟩:=by
     unfold DE.toE;rw [he3,he2]
     simp only [A4,RQ E 0 l (Int.le_refl _)]
    have hm:e.toE∈st2.toSt.so:=List.mem_map.2 ⟨e,he1,rfl⟩
    have hL:st2.toSt.lookD id=some e.toE:=hR2.lookD_of hm (by rw [hE]) hb1
    have hblk:G2.blk id=some w.heap.size:=by
     have hS:=hR2.store _ hm
     unfold AX at hS
     rw [hE]at hS
     obtain⟨_,v,s1,s2⟩:=hS
     simp only at s1 s2
     rw [hsl.1]at s1
     injection s1 with s1
     rcases s2 with ⟨p,_,s3,_⟩ | ⟨b,cap',cur,s3,s4,_⟩
     ·omega
     ·rw [s3]at s1
      injection s1 with s1
      injection s1 with s1
      injection s1 with s1
      rw [s4,s1]
    obtain⟨E1,n1',len1,v1,cap1,cur1,g1,g2,g3,g4,g5,g6,g7,g8,g9⟩:=hR2.deepRel hL hblk
    rw [hE]at g9
    obtain⟨us,r1,r2⟩:=g9.list
    obtain⟨G3,hR3,hown⟩:=hR2.nilsOwned hL (cs':=Aw T E (List.length l:Nat) 0 l) (by rw [hE,Fz];exact(Bo (fun y=>AD E y) l).symm) (MH l 0) hblk (fun k c hk=>by
     rw [hE]
     rcases RV (by omega) hk with ⟨F1,m,cs,z1,z2⟩ | z
     ·right
      obtain⟨v,y1,y2⟩:=VQ r1 z2
      have hcell:=r2 k v y1
      rw [Nat.zero_add]at hcell
      obtain⟨x1,x2,x3⟩:=kN y2 (hcells k v hcell)
      subst x1 x2 x3
      exact⟨F1,T.sz F1,z1,hcell⟩
     ·exact .inl z)
    have hless:Ck (st2.toSt.killP (Dm id) ((st2.toSt.so.map (As.killP (Dm id))).map (setE id e.toE.row (Aw T E (List.length l:Nat) 0 l)))) ((st2.killF (Dm id)).setX id (.deep E (List.length l:Nat) l none)).toSt :=by
     refine Jp ?_ ?_ ?_ (FO n4.ok) ?_
     ·exact k1
     ·exact k2
     ·intro z hz
      simp only [St.killP,List.mem_map]
      obtain⟨e3,h1,rfl⟩:=List.mem_map.1 hz
      rcases setL_mem' n3.ok.nd h1 with ⟨h1,h2⟩ | h1
      ·obtain⟨d3,h3,h4,h5⟩:=NJ n2.ok (List.mem_map.2 ⟨e3,h1,rfl⟩)
       have hid3:d3.id ≠ id:=by
        intro q
        have:e3.toE.id=d3.id:=by rw [h5,As.killP_id]
        rw [DE.toE_id]at this
        exact h2 (this.trans q)
       refine⟨d3.killP (Dm id),⟨d3,h3,rfl⟩,?_⟩
       rw [EZ (by rw [As.killP_id];exact hid3),h5]
      ·subst h1
       refine⟨e.toE.killP (Dm id),⟨e.toE,hm,rfl⟩,?_⟩
       rw [DZ (by rw [As.killP_id,hE]),As.killP_id,As.killP_pu,hE]
       rfl
     ·show (st2.killF (Dm id)).pre =st2.pre
      exact k4
    unfold Oper.wp
    rw [hrun]
    refine⟨_,G3,hK,?_⟩
    rw [hd]
    exact hR3.less hless
   ·exact Yl.no
  ·exact Yl.no
 ·exact Yl.no
end Go.PL
namespace Go.PL
open Go Go.RowKit
variable {T:Be}
def HD (c:DC T):(ks:List Kd)→DK T.den ks→Nat→Option (DK T.den ks)
 | .int k::_,y,0=>match Gv false (.int k) c with
   | some x=>some (x,y.2)
   | none=>none
 | .bool ::_,y,0=>match Gv false .bool c with
   | some x=>some (x,y.2)
   | none=>none
 | .str ::_,y,0=>match Gv false .str c with
   | some x=>some (x,y.2)
   | none=>none
 | _::ks,y,p+1=>match HD c ks y.2 p with
   | some z=>some (y.1,z)
   | none=>none
 | _,_,_=>none
theorem Kg {c:DC T}: ∀ {ks:List Kd} {y z:DK T.den ks} {p:Nat},HD c ks y p=some z→
 BA T ks z=(BA T ks y).set p c.toC∧Bv T.enc ks z=(Bv T.enc ks y).set p c.toC∧p<ks.length∧c.toC.pure=true∧Yu c.toC=true
 | [],_,_,_,h=>by simp [HD]at h
 | .lst F'::ks,y,z,0,h=>by simp [HD]at h
 | .int k::ks,y,z,0,h=>by
   simp only [HD]at h
   split at h
   ·rename_i x hx
    injection h with h;subst h
    have:=(Co hx).2 rfl
    rw [this]
    exact⟨rfl,rfl,by simp,rfl,rfl⟩
   ·cases h
 | .bool ::ks,y,z,0,h=>by
   simp only [HD]at h
   split at h
   ·rename_i x hx
    injection h with h;subst h
    have:=(Co hx).2 rfl
    rw [this]
    exact⟨rfl,rfl,by simp,rfl,rfl⟩
   ·cases h
 | .str ::ks,y,z,0,h=>by
   simp only [HD]at h
   split at h
   ·rename_i x hx
    injection h with h;subst h
    have:=(Co hx).2 rfl
    rw [this]
    exact⟨rfl,rfl,by simp,rfl,rfl⟩
   ·cases h
 | k::ks,y,z,p+1,h=>by
   have h:(match HD c ks y.2 p with | some z=>some ((y.1,z):KA T.den k×DK T.den ks) | none=>none)=some z:=by
    cases k<;>simpa only [HD] using h
   split at h
   ·rename_i z' hz
    injection h with h
    subst h
    obtain⟨a,b,d,e,f⟩:=Kg hz
    exact⟨by simp only [BA,List.set_cons_succ];rw [a],by simp only [Bv,List.set_cons_succ];rw [b],by simp;omega,e,f⟩
   ·cases h
theorem O4 {E:Nat} {n:Int} {c:C} {p:Nat} {x':T.den E}: ∀ {l:List (T.den E)} {k:Int} {i:Nat} {x:T.den E},l[i]? =some x→T.denc E x'=(T.denc E x).set p c→T.enc E x'=(T.enc E x).set p c→p<T.sz E→(Aw T E n k l).set (i*T.sz E+p) c=Aw T E n k (l.set i x')
 | [],_,_,_,h,_,_,_=>by simp at h
 | y::l,k,0,x,h,hx,hx2,hp=>by
   simp only [List.getElem?_cons_zero,Option.some.injEq]at h
   subst h
   rw [List.set_cons_zero,Aw,Aw,Nat.zero_mul,Nat.zero_add]
   by_cases hk:k<n
   ·rw [if_pos hk,if_pos hk,List.set_append_left _ _ (by rw [Du];exact hp),hx]
   ·rw [if_neg hk,if_neg hk,List.set_append_left _ _ (by rw [AD];exact hp),hx2]
 | y::l,k,i+1,x,h,hx,hx2,hp=>by
   have hl:(if k<n then T.denc E y else T.enc E y).length =T.sz E:=by
    split
    ·exact Du E y
    ·exact AD E y
   rw [List.set_cons_succ,Aw,Aw,List.set_append_right _ _ (by rw [hl,Nat.add_mul,Nat.one_mul];omega),hl,show (i+1)*T.sz E+p - T.sz E=i*T.sz E+p by rw [Nat.add_mul,Nat.one_mul];omega]
   rw [O4 (by simpa using h) hx hx2 hp]
def EX (P:Program) (o:Oper) (st:Ag T):M (Ag T):=match o.op with
 | .store t x y=>match o.dst,st.arg [] x,st.arg [] y,Ir P t with
   | none,some (.c (.rp id N i off)),some (.c c),some (false,1)=>match IE st id with
     | some ⟨E,(nn,l,none)⟩=>mIf (Ed id&&Nat.beq N (T.sz E)) (.opt (AN l i) fun x=>
      match HD c (T.ks E) (T.un E x) off with
      | some z=> .ret (st.setX id (.deep E nn (l.set i.toNat (T.bd E z)) none))
      | none=> .no)
     | _=> .no
   | _,_,_,_=> .no
 | _=> .no
theorem kQ {H:At T} {P:Program} {I:World→Prop} {st:Ag T} (hw:AB H st) {o:Oper}:Yl (EX P o st) (fun st'=>(∃ H',Nx H st H' st')∧st'.pre=st.pre∧ ∀ K:St→Prop,K st'.toSt→Eg P I o st.toSt K):=by
 unfold EX
 split
 ·rename_i t x y hop
  split
  ·rename_i id N i off c hd hx hy ht
   split
   ·rename_i E nn l hdr
    refine Yl.mIf fun hg=>Yl.opt fun xx hxx=>?_
    simp only [Bool.and_eq_true,Nat.beq_eq]at hg
    obtain⟨g1,g2⟩:=hg
    subst g2
    split
    ·rename_i z hz
     obtain⟨i0,i1,hxi⟩:=GJ hxx
     obtain⟨a1,a2,a3⟩:=Hv hw hx
     obtain⟨b1,b2,b3⟩:=Hv hw hy
     obtain⟨hmk,hlr,e,he1,he2,he3⟩:=Ce hdr
     obtain⟨z1,z2,hoff,z3,z4⟩:=Kg hz
     have hE:e.toE=⟨id,some (E,T.sz E,l.length),Aw T E nn 0 l,true⟩:=by unfold DE.toE;rw [he3,he2];rfl
     have hdenc:T.denc E (T.bd E z)=(T.denc E xx).set off c.toC:=by rw [Be.denc,T.unmk,z1];rfl
     have henc:T.enc E (T.bd E z)=(T.enc E xx).set off c.toC:=by rw [←T.encok,T.unmk,z2,T.encok]
     have hset:=O4 (n:=nn) (k:=0) (x':=T.bd E z) (c:=c.toC) (p:=off) hxi hdenc henc hoff
     obtain⟨H2,n2⟩:=Ag.setX_nx hw id (x:= .deep E nn (l.set i.toNat (T.bd E z)) none) trivial
     refine Yl.ret ⟨⟨H2,n2⟩,rfl,fun K hK Fr a w G Q hI hR=>?_⟩
     have hm:e.toE∈st.toSt.so:=List.mem_map.2 ⟨e,he1,rfl⟩
     have hL:st.toSt.lookD id=some e.toE:=hR.lookD_of hm (by rw [hE]) g1
     have hxv:=hR.arg rfl a2
     rw [a3]at hxv
     simp only [DV.toV,DC.toC,Ab,Ad]at hxv
     obtain⟨b,hb1,hv⟩:=hxv
     have hyv:=hR.arg rfl b2
     rw [b3]at hyv
     simp only [DV.toV,Ab]at hyv
     have hone:=hyv.one
     have hcl:(a.eval y).cells.toList =[a.eval y]:=by
      cases hq:a.eval y<;>rw [hq]at hone<;>first | rfl | cases hone
     have hc:Ai w G [c.toC] (a.eval y).cells.toList :=by rw [hcl];exact⟨hyv,trivial⟩
     have hlen:e.toE.cs.length=l.length*T.sz E:=by rw [hE];exact Fz _ _ _ _
     have hoff':off<T.sz E:=hoff
     have hk:i.toNat*T.sz E+off<e.toE.cs.length:=by
      rw [hlen]
      have:(i.toNat+1)*T.sz E≤l.length*T.sz E:=Nat.mul_le_mul_right _ (by omega)
      rw [Nat.add_mul,Nat.one_mul]at this
      omega
     obtain⟨cur,T',c1,c2,c3⟩:=hR.deepStored hL hb1 (off:=i.toNat*T.sz E+off) hc (by simp;omega) (by simp [Ao,z3]) (by simp [z4])
     have hs:=Ds (P:=P) ht c1 (by rw [hcl];rfl) c2 (Ai.one hc)
     generalize w.setRow b _=w1 at hs c3
     have hrun:(execOp a.eval o).run P w= .ok .skip w1:=by simp [execOp,hop,hv,hs]
     refine Es hrun ?_
     rw [hd]
     refine⟨_,G,hK,c3.less ?_⟩
     refine Jp (Ip.refl _) (Ip.refl _) ?_ (FO n2.ok) rfl
     intro u hu
     obtain⟨e3,h1,rfl⟩:=List.mem_map.1 hu
     rcases setL_mem' hw.nd h1 with ⟨h1,h2⟩ | h1
     ·exact List.mem_map.2 ⟨e3.toE,List.mem_map.2 ⟨e3,h1,rfl⟩,EZ (by rw [DE.toE_id];exact h2)⟩
     ·subst h1
      refine List.mem_map.2 ⟨e.toE,hm,?_⟩
      rw [DZ (by rw [hE])]
      show _=(⟨id,some (E,T.sz E,(l.set i.toNat (T.bd E z)).length),Aw T E nn 0 (l.set i.toNat (T.bd E z)),true⟩:As)
      simp only [hE,List.length_set]
      congr 1
      rw [←hset]
      have hkk:i.toNat*T.sz E+off<(Aw T E nn 0 l).length :=by rw [hE]at hk;exact hk
      rw [List.set_eq_take_append_cons_drop,if_pos hkk]
      simp
    ·exact Yl.no
   ·exact Yl.no
  ·exact Yl.no
 ·exact Yl.no
def mz (ks:List Nat) (st:Ag T):Ag T:=match st.gh with
 | []=>st
 | (m,tm)::r=>{st with gh:=(m,FC ks tm)::r}
theorem kR {H:At T} {st:Ag T} (hw:AB H st) (ks:List Nat):(∃ H',Nx H st H' (mz ks st))∧(mz ks st).pre =st.pre∧Wk st.toSt (mz ks st).toSt :=by
 unfold mz
 split
 ·exact⟨⟨H,Nx.refl hw⟩,rfl,Wk.less (Ck.refl _)⟩
 ·rename_i m tm r hg
  have hn:Nx H st H {st with gh:=(m,FC ks tm)::r}:=⟨Cw.refl _ _,Nat.le_refl _,hw.tm,fun f hf=>by
   rcases List.mem_cons.1 hf with rfl | hf
   ·exact fun s t v hm=>hw.gh (m,tm) (by rw [hg];simp) s t v (Ji hm)
   ·exact hw.gh f (by rw [hg];simp [hf]),hw.so,hw.nd⟩
  refine⟨⟨H,hn⟩,rfl,Wk.less (Jp (Ip.refl _) ?_ (fun _ h=>h) (FO hn.ok) rfl)⟩
  show Ip (st.gh.flatMap fun f=>Au f.1 f.2) (((m,FC ks tm)::r).flatMap fun f=>Au f.1 f.2)
  rw [hg,List.flatMap_cons,List.flatMap_cons]
  refine Ip.append ?_ (Ip.refl _)
  unfold Au
  refine Ip.map fun i _=>?_
  rw [KI]
  split
  ·exact .inr rfl
  ·exact .inl rfl
end Go.PL
set_option linter.all false
namespace Go.PL
open Go Go.RowKit
variable {T:Be}
def P9 {P:Program} {I:World→Prop} (f:FuncId):List (CE T P I)→Option TypeId
 | []=>none
 | e::r=>match Nat.beq e.f f,e.ins with
   | true,some E=>some E
   | _,_=>P9 f r
theorem MI {P:Program} {I:World→Prop} {f:FuncId} {E:TypeId}: ∀ {l:List (CE T P I)},P9 f l=some E→OT P f E
 | [],h=>by cases h
 | e::r,h=>by
   unfold P9 at h
   split at h
   ·rename_i E' hb hE
    injection h with h;subst h
    rw [←Nat.eq_of_beq_eq_true hb]
    exact e.insok _ hE
   ·exact MI h
def mA {P:Program} {I:World→Prop} {E:TypeId} (f:FuncId) (h:OT P f E):CE T P I where
 f:=f
 ps:=[]
 rs:=[]
 run:=fun _=>none
 ok:=fun _ _ h=>nomatch h
 ins:=some E
 insok:=fun E' q=>by injection q with q;exact q▸h
def eW (st:Ag T) (r:Ah) (E:Nat) (l m:List (T.den E)) (i:Int) (d:Nat):M (Ag T):=
 .opt (AS (0≤i∧i≤(l.length:Nat)∧0<m.length∧(l.length+m.length)*8≤140737488355328)) fun _=>
  match st.new r (.row E (l.take i.toNat++(m++l.drop i.toNat)))with
  | some s=> .ret (s.put (some d) (.c (.c (.osl r))))
  | none=> .no
theorem eX {H:At T} {P:Program} {I:World→Prop} {st:Ag T} (hw:AB H st) {o:Oper} {f:FuncId} {x y z:Operand} {d:Nat} {r rv:Ah} {E:Nat} {l m:List (T.den E)} {i:Int} (hk:B2 o.op= .call f [x,y,z]) (hd:o.dst=some d) (g1:PL.ent P f=true) (hp:OT P f E) (g4:T.sz E=1) (hne:r ≠ rv)
 (hx:st.arg [] x=some (.c (.c (.osl r)))) (hy:st.arg [] y=some (.c (.k (.int .i64) i))) (hz:st.arg [] z=some (.c (.c (.osl rv)))) (hr:Db st r=some ⟨E,l⟩) (hrv:Db st rv=some ⟨E,m⟩):
 Yl (eW st r E l m i d) (fun st'=>(∃ H',Nx H st H' st')∧st'.pre=st.pre∧ ∀ K:St→Prop,K st'.toSt→Eg P I o st.toSt K):=by
 unfold eW
 refine Yl.opt fun u hn=>?_
 have hn:=CQ hn
 split
 ·rename_i s hs
  obtain⟨⟨H1,n1⟩,l1,p1⟩:=Ag.new_spec hw (show (DX.row E _:DX T).ok from trivial) hs
  obtain⟨H2,n2⟩:=Ag.put_spec n1 (some d) (v:= .c (.c (.osl r))) (by simp only [DV.ok,DC.ok])
  refine Yl.ret ⟨⟨H2,n2⟩,by rw [AL];exact p1,fun K hK=>?_⟩
  obtain⟨_,a2,a3⟩:=Hv hw hx
  obtain⟨_,b2,b3⟩:=Hv hw hy
  obtain⟨_,c2,c3⟩:=Hv hw hz
  obtain⟨h1,_,_⟩:=BF hr
  obtain⟨h2,_,_⟩:=BF hrv
  rw [g4]at h1 h2
  have hlen: ∀ l:List (T.den E),(l.flatMap (T.enc E)).length =l.length:=fun l=>by rw [XU (fun y=>AD E y),g4,Nat.mul_one]
  have ht: ∀ (l:List (T.den E)) (j:Nat),(l.flatMap (T.enc E)).take j=(l.take j).flatMap (T.enc E):=fun l j=>by
   have:=Fu (fun y=>AD E y) l j
   rw [g4,Nat.mul_one]at this;exact this
  have hdp: ∀ (l:List (T.den E)) (j:Nat),(l.flatMap (T.enc E)).drop j=(l.drop j).flatMap (T.enc E):=fun l j=>by
   have:=GP (fun y=>AD E y) l j
   rw [g4,Nat.mul_one]at this;exact this
  have hE:(⟨r,0, .row E (l.take i.toNat++(m++l.drop i.toNat))⟩:DE T).toE =⟨r,some (E,1,l.length+m.length),(l.flatMap (T.enc E)).take i.toNat++m.flatMap (T.enc E)++(l.flatMap (T.enc E)).drop i.toNat,true⟩:=by
   show (⟨r,some (E,T.sz E,(l.take i.toNat++(m++l.drop i.toNat)).length),(l.take i.toNat++(m++l.drop i.toNat)).flatMap (T.enc E),true⟩:As)=_
   rw [g4,List.flatMap_append,List.flatMap_append,ht,hdp,List.append_assoc]
   simp only [List.length_append,List.length_take,List.length_drop,As.mk.injEq,Option.some.injEq,Prod.mk.injEq,true_and,and_true]
   omega
  refine Eg.ins (K:=K) hk g1 hp (fun Fr a w G hR=>?_) (fun Fr a w G hR=>?_) (fun Fr a w G hR=>?_) h1 h2 hne ⟨hn.1,hn.2.1⟩ hn.2.2.1 hn.2.2.2 (by rw [←hE];exact l1) (by rw [hd];rw [Ag.put_toSt]at hK;simpa only [DV.toV,DC.toC] using hK)
  ·have:=hR.arg rfl a2
   rw [a3]at this
   simpa only [DV.toV,DC.toC] using this
  ·have:=hR.arg rfl b2
   rw [b3]at this
   simpa only [DV.toV,DC.toC,Bd] using this
  ·have:=hR.arg rfl c2
   rw [c3]at this
   simpa only [DV.toV,DC.toC] using this
 ·exact Yl.no
def kS {P:Program} {I:World→Prop} (Γ:List (CE T P I)) (o:Oper) (st:Ag T):M (Ag T):=match B2 o.op,o.dst with
 | .call f [x,y,z],some d=>match st.arg [] x,st.arg [] y,st.arg [] z,P9 f Γ with
   | some (.c (.c (.osl r))),some (.c (.k (.int .i64) i)),some (.c (.c (.osl rv))),some E0=>match Db st r,Db st rv with
     | some ⟨E,l⟩,some ⟨E',m'⟩=>match U3 E E' m' with
       | some m=>mIf ((PL.ent P f&& !A1 r rv)&&(Nat.beq E0 E&&Nat.beq (T.sz E) 1)) (eW st r E l m i d)
       | none=> .no
     | _,_=> .no
   | _,_,_,_=> .no
 | _,_=> .no
theorem iB {H:At T} {P:Program} {I:World→Prop} {Γ:List (CE T P I)} {st:Ag T} (hw:AB H st) {o:Oper}:Yl (kS Γ o st) (fun st'=>(∃ H',Nx H st H' st')∧st'.pre=st.pre∧ ∀ K:St→Prop,K st'.toSt→Eg P I o st.toSt K):=by
 unfold kS
 split
 ·rename_i f x y z d hk hd
  split
  ·rename_i r i rv E0 hx hy hz hp
   split
   ·rename_i E l E' m' hr hrv
    split
    ·rename_i m hm
     refine Yl.mIf fun hg=>?_
     simp only [Bool.and_eq_true,Nat.beq_eq,Bool.not_eq_true']at hg
     obtain⟨⟨g1,g2⟩,g3,g4⟩:=hg
     subst g3
     obtain⟨e,hme⟩:=Jn hm
     subst e
     subst hme
     exact eX hw hk hd g1 (MI hp) g4 (fun q=>by rw [Az.2 q]at g2;cases g2) hx hy hz hr hrv
    ·exact Yl.no
   ·exact Yl.no
  ·exact Yl.no
 ·exact Yl.no
end Go.PL
set_option linter.all false
namespace Go.PL
open Go Go.RowKit
variable {T:Be}
def kT (P:Program) (o:Oper) (st:Ag T):M (Ag T):=match o.op with
 | .load t x=>match o.dst,st.arg [] x,Ir P t with
   | some d,some (.c (.rp id N i off)),some (false,1)=>match IE st id with
     | some ⟨E,(nn,l,none)⟩=>mIf (Ed id&&Nat.beq N (T.sz E)) (.opt (AN l i) fun x=> .opt (AS (i<nn)) fun _=>match E6 (T.ks E) (T.un E x) off with
       | some ⟨_,_⟩=> .ret (st.put (some d) (.c (.c (.osl (1000007::(i.toNat*T.sz E+off)::id)))))
       | none=> .no)
     | _=> .no
   | _,_,_=> .no
 | _=> .no
def kU (P:Program) (o:Oper) (st:Ag T):M (Ag T):=match o.op with
 | .indexAddr t x y=>match o.dst,st.arg [] x,st.arg [] y,CZ P t with
   | some d,some (.c (.c (.osl (m::k::id)))),some (.c (.k (.int _) j)),some (_,n')=>match IE st id with
     | some ⟨E,(nn,l,none)⟩=>mIf (Ed id&&(Nat.beq m 1000007&&Nat.beq (T.sz E) 1)) (.opt (AN l (k:Int)) fun x=> .opt (AS ((k:Int)<nn)) fun _=>match E6 (T.ks E) (T.un E x) 0 with
       | some ⟨F,y⟩=>mIf (Nat.beq n' (T.sz F)) (.opt (AN y j) fun _=> .ret (st.put (some d) (.c (.c (.ptr (m::k::id) (j.toNat*n'))))))
       | none=> .no)
     | _=> .no
   | _,_,_,_=> .no
 | _=> .no
def kV (P:Program) (o:Oper) (st:Ag T):M (Ag T):=match o.op with
 | .store t x y=>match o.dst,st.arg [] x,st.arg [] y,Ir P t with
   | none,some (.c (.c (.ptr (m::k::id) off))),some (.c c),some (false,1)=>match IE st id with
     | some ⟨E,(nn,l,none)⟩=>mIf (Ed id&&(Nat.beq m 1000007&&Nat.beq (T.sz E) 1)) (.opt (AN l (k:Int)) fun x=> .opt (AS ((k:Int)<nn)) fun _=>match E6 (T.ks E) (T.un E x) 0 with
       | some ⟨F,y⟩=>mIf (Nat.beq (T.sz F) 1) (.opt (AN y (off:Int)) fun v=>match HD c (T.ks F) (T.un F v) 0 with
         | some z=>match E7 F (y.set off (T.bd F z)) (T.ks E) (T.un E x) 0 with
           | some x'=> .ret (st.setX id (.deep E nn (l.set k (T.bd E x')) none))
           | none=> .no
         | none=> .no)
       | none=> .no)
     | _=> .no
   | _,_,_,_=> .no
 | _=> .no
section
variable {H:At T} {P:Program} {I:World→Prop} {st:Ag T}
theorem NL {E:Nat} {nn:Int} {l:List (T.den E)} {k off:Nat} {x:T.den E} (hx:l[k]? =some x) (hn:(k:Int)<nn) {F:Nat} {y:List (T.den F)} (hy:E6 (T.ks E) (T.un E x) off=some ⟨F,y⟩):
 (Aw T E nn 0 l)[k*T.sz E+off]? =some (.isl F (T.sz F) y.length (y.flatMap (T.enc F))):=by
 obtain⟨hc,hoff⟩:=Kf hy
 rw [Hp hx hoff,if_pos (by omega)]
 exact hc
theorem iD (hw:AB H st) {o:Oper}:Yl (kT P o st) (fun st'=>(∃ H',Nx H st H' st')∧st'.pre=st.pre∧ ∀ K:St→Prop,K st'.toSt→Eg P I o st.toSt K):=by
 unfold kT
 split
 ·rename_i t x hop
  split
  ·rename_i d id N i off hd hx ht
   split
   ·rename_i E nn l hdr
    refine Yl.mIf fun hg=>Yl.opt fun xx hxx=>Yl.opt fun u hu=>?_
    simp only [Bool.and_eq_true,Nat.beq_eq]at hg
    obtain⟨g1,g2⟩:=hg
    subst g2
    split
    ·rename_i F y hy
     have hin:=CQ hu
     obtain⟨i0,i1,hxi⟩:=GJ hxx
     obtain⟨a1,a2,a3⟩:=Hv hw hx
     obtain⟨hmk,hlr,e,he1,he2,he3⟩:=Ce hdr
     have hE:e.toE=⟨id,some (E,T.sz E,l.length),Aw T E nn 0 l,true⟩:=by unfold DE.toE;rw [he3,he2];rfl
     obtain⟨H4,n4⟩:=Ag.put_nx hw (some d) (v:= .c (.c (.osl (1000007::(i.toNat*T.sz E+off)::id)))) (by simp only [DV.ok,DC.ok])
     refine Yl.ret ⟨⟨H4,n4⟩,AL _ _ _,fun K hK Fr a w G Q hI hR=>?_⟩
     have hL:st.toSt.lookD id=some e.toE:=hR.lookD_of (List.mem_map.2 ⟨e,he1,rfl⟩) (by rw [hE]) g1
     have hk:e.toE.cs[i.toNat*T.sz E+off]? =some (.isl F (T.sz F) y.length (y.flatMap (T.enc F))):=by
      rw [hE]
      exact NL hxi (by omega) hy
     have hxv:=hR.arg rfl a2
     rw [a3]at hxv
     simp only [DV.toV,DC.toC,Ab,Ad]at hxv
     obtain⟨b,hb1,hv⟩:=hxv
     obtain⟨_,hRE,b2,v,k3,k4,k5⟩:=hR.inner hL hk
     rw [hb1]at k3;injection k3 with k3;subst k3
     obtain⟨dd,ti,hu',hd',_⟩:=C8 ht
     have hone:v.oneCell'=true:=by
      unfold AX at hRE
      obtain⟨_,v2,c2,c3⟩:=hRE
      rw [show (⟨BH (i.toNat*T.sz E+off) id,some (F,T.sz F,y.length),y.flatMap (T.enc F),true⟩:As).id =BH (i.toNat*T.sz E+off) id from rfl,k5]at c2
      injection c2 with c2;subst c2
      rcases c3 with ⟨p,rfl,_⟩ | ⟨b',cap,cur,rfl,_⟩<;>rfl
     have hrun:(execOp a.eval o).run P w= .ok (.value v) w:=by
      simp [execOp,hop,hv,Ee hu' hd' k4]
     refine AM hrun ⟨_,G,hK,?_⟩
     rw [Ag.put_toSt,hd]
     exact hR.put (by simp only [DV.toV,DC.toC,Ab,Ad];exact⟨k5,hone⟩)
    ·exact Yl.no
   ·exact Yl.no
  ·exact Yl.no
 ·exact Yl.no
theorem iE (hw:AB H st) {o:Oper}:Yl (kU P o st) (fun st'=>(∃ H',Nx H st H' st')∧st'.pre=st.pre∧ ∀ K:St→Prop,K st'.toSt→Eg P I o st.toSt K):=by
 unfold kU
 split
 ·rename_i t x y hop
  split
  ·rename_i d m k id ki j E' n' hd hx hy ht
   split
   ·rename_i E nn l hdr
    refine Yl.mIf fun hg=>Yl.opt fun xx hxx=>Yl.opt fun u hu=>?_
    simp only [Bool.and_eq_true,Nat.beq_eq]at hg
    obtain⟨g1,g2,g3⟩:=hg
    subst g2
    split
    ·rename_i F r hr
     refine Yl.mIf fun hg'=>Yl.opt fun z hz=>?_
     have g4:n'=T.sz F:=by simpa using hg'
     subst g4
     have hin:=CQ hu
     obtain⟨i0,i1,hxi⟩:=GJ hxx
     obtain⟨j0,j1,_⟩:=GJ hz
     obtain⟨a1,a2,a3⟩:=Hv hw hx
     obtain⟨b1,b2,b3⟩:=Hv hw hy
     obtain⟨hmk,hlr,e,he1,he2,he3⟩:=Ce hdr
     have hE:e.toE=⟨id,some (E,T.sz E,l.length),Aw T E nn 0 l,true⟩:=by unfold DE.toE;rw [he3,he2];rfl
     obtain⟨H4,n4⟩:=Ag.put_nx hw (some d) (v:= .c (.c (.ptr (1000007::k::id) (j.toNat*T.sz F)))) (by simp only [DV.ok,DC.ok])
     refine Yl.ret ⟨⟨H4,n4⟩,AL _ _ _,fun K hK Fr a w G Q hI hR=>?_⟩
     have hL:st.toSt.lookD id=some e.toE:=hR.lookD_of (List.mem_map.2 ⟨e,he1,rfl⟩) (by rw [hE]) g1
     have hk:e.toE.cs[k]? =some (.isl F (T.sz F) r.length (r.flatMap (T.enc F))):=by
      rw [hE]
      have:=NL (nn:=nn) (k:=k) (off:=0) (by simpa using hxi) hin hr
      rw [g3,Nat.mul_one,Nat.add_zero]at this
      exact this
     have hxv:=hR.arg rfl a2
     have hyv:=hR.arg rfl b2
     rw [a3]at hxv
     rw [b3]at hyv
     simp only [DV.toV,DC.toC,Bd,Ab,Ad]at hxv hyv
     obtain⟨_,hRE,_⟩:=hR.inner hL hk
     unfold AX at hRE
     obtain⟨_,v2,c2,c3⟩:=hRE
     rw [show (⟨BH k id,some (F,T.sz F,r.length),r.flatMap (T.enc F),true⟩:As).id =BH k id from rfl,show BH k id=1000007::k::id from rfl,hxv.1]at c2
     injection c2 with c2
     rcases c3 with ⟨p,_,c4,_⟩ | ⟨b',cap,cur,c3,e2,_⟩
     ·omega
     ·have hrun:(execOp a.eval o).run P w= .ok (.value (.pointer (some ⟨b',0+j.toNat*T.sz F,none⟩))) w:=by
       simp [execOp,hop,hyv,c2,c3,Dq ht b' 0 r.length cap ki j j0 j1 w]
      refine AM hrun ⟨_,G,hK,?_⟩
      rw [Ag.put_toSt,hd]
      exact hR.put (by simp only [DV.toV,DC.toC,Ab,Ad];exact⟨b',e2,by rw [Nat.zero_add]⟩)
    ·exact Yl.no
   ·exact Yl.no
  ·exact Yl.no
 ·exact Yl.no
theorem XW {F:Nat} {c:C} {v':T.den F} (hs:T.sz F=1) (hv:T.enc F v'=[c]): ∀ {y:List (T.den F)} {off:Nat},off<y.length→(y.set off v').flatMap (T.enc F)=(y.flatMap (T.enc F)).take off++[c]++(y.flatMap (T.enc F)).drop (off+1)
 | [],_,h=>by simp at h
 | a::y,0,_=>by
   have ha:(T.enc F a).length =1:=by rw [AD,hs]
   obtain⟨q,hq⟩: ∃ q,T.enc F a=[q]:=List.length_eq_one_iff.1 ha
   simp [hv,hq]
 | a::y,off+1,h=>by
   have ha:(T.enc F a).length =1:=by rw [AD,hs]
   obtain⟨q,hq⟩: ∃ q,T.enc F a=[q]:=List.length_eq_one_iff.1 ha
   have:=XW hs hv (y:=y) (off:=off) (by simpa using h)
   simp [hq,this]
theorem iG (hw:AB H st) {o:Oper}:Yl (kV P o st) (fun st'=>(∃ H',Nx H st H' st')∧st'.pre=st.pre∧ ∀ K:St→Prop,K st'.toSt→Eg P I o st.toSt K):=by
 unfold kV
 split
 ·rename_i t x y hop
  split
  ·rename_i m k id off c hd hx hy ht
   split
   ·rename_i E nn l hdr
    refine Yl.mIf fun hg=>Yl.opt fun xx hxx=>Yl.opt fun u hu=>?_
    simp only [Bool.and_eq_true,Nat.beq_eq]at hg
    obtain⟨g1,g2,g3⟩:=hg
    subst g2
    split
    ·rename_i F r hr
     refine Yl.mIf fun hg'=>Yl.opt fun v hv0=>?_
     have g4:T.sz F=1:=by simpa using hg'
     split
     ·rename_i z hz
      split
      ·rename_i x' hx'
       have hin:=CQ hu
       obtain⟨i0,i1,hxi⟩:=GJ hxx
       obtain⟨j0,j1,hvi⟩:=GJ hv0
       simp only [Int.toNat_natCast]at hxi hvi
       have hkl:k<l.length:=by omega
       have hol:off<r.length:=by omega
       obtain⟨a1,a2,a3⟩:=Hv hw hx
       obtain⟨b1,b2,b3⟩:=Hv hw hy
       obtain⟨hmk,hlr,e,he1,he2,he3⟩:=Ce hdr
       obtain⟨z1,z2,_,z3,z4⟩:=Kg hz
       obtain⟨w1,w2⟩:=Jq hx'
       have hE:e.toE=⟨id,some (E,T.sz E,l.length),Aw T E nn 0 l,true⟩:=by unfold DE.toE;rw [he3,he2];rfl
       have hk:e.toE.cs[k]? =some (.isl F (T.sz F) r.length (r.flatMap (T.enc F))):=by
        rw [hE]
        have:=NL (nn:=nn) (k:=k) (off:=0) hxi hin hr
        rw [g3,Nat.mul_one,Nat.add_zero]at this
        exact this
       have hv':T.enc F (T.bd F z)=[c.toC]:=by
        have hl1:(Bv T.enc (T.ks F) (T.un F v)).length =1:=by
         have:=AD F v
         rw [←T.encok,g4]at this
         exact this
        obtain⟨q,hq⟩:=List.length_eq_one_iff.1 hl1
        rw [←T.encok,T.unmk,z2,hq];rfl
       have hfl:=XW g4 hv' hol
       have hdenc:T.denc E (T.bd E x')=(T.denc E xx).set 0 (.isl F (T.sz F) r.length ((r.flatMap (T.enc F)).take off++[c.toC]++(r.flatMap (T.enc F)).drop (off+[c.toC].length))):=by
        rw [Be.denc,T.unmk,w1]
        rw [List.length_set,hfl];rfl
       have hset:=LS (n:=nn) (k:=0) (x':=T.bd E x') (p:=0) hxi (by omega) hdenc (by omega)
       obtain⟨H2,n2⟩:=Ag.setX_nx hw id (x:= .deep E nn (l.set k (T.bd E x')) none) trivial
       refine Yl.ret ⟨⟨H2,n2⟩,rfl,fun K hK Fr a w G Q hI hR=>?_⟩
       have hm:e.toE∈st.toSt.so:=List.mem_map.2 ⟨e,he1,rfl⟩
       have hL:st.toSt.lookD id=some e.toE:=hR.lookD_of hm (by rw [hE]) g1
       have hxv:=hR.arg rfl a2
       rw [a3]at hxv
       simp only [DV.toV,DC.toC,Ab,Ad]at hxv
       obtain⟨b,hb1,hv⟩:=hxv
       have hyv:=hR.arg rfl b2
       rw [b3]at hyv
       simp only [DV.toV,Ab]at hyv
       have hone:=hyv.one
       have hcl:(a.eval y).cells.toList =[a.eval y]:=by
        cases hq:a.eval y<;>rw [hq]at hone<;>first | rfl | cases hone
       have hc:Ai w G [c.toC] (a.eval y).cells.toList :=by rw [hcl];exact⟨hyv,trivial⟩
       have hcsl:(r.flatMap (T.enc F)).length =r.length:=by rw [Bo (fun y=>AD F y),g4,Nat.mul_one]
       obtain⟨cur,T',c1,c2,c3⟩:=hR.innerStored hL hk (b:=b) hb1 (off:=off) hc (by rw [hcsl];simp;omega) (by simp [Ao,z3])
       have hs:=Ds (P:=P) ht c1 (by rw [hcl];rfl) c2 (Ai.one hc)
       generalize w.setRow b _=w1 at hs c3
       have hrun:(execOp a.eval o).run P w= .ok .skip w1:=by simp [execOp,hop,hv,hs]
       refine Es hrun ?_
       rw [hd]
       refine⟨_,G,hK,c3.less ?_⟩
       refine Jp (Ip.refl _) (Ip.refl _) ?_ (FO n2.ok) rfl
       intro u hu
       obtain⟨e3,h1,rfl⟩:=List.mem_map.1 hu
       rcases setL_mem' hw.nd h1 with ⟨h1,h2⟩ | h1
       ·exact List.mem_map.2 ⟨e3.toE,List.mem_map.2 ⟨e3,h1,rfl⟩,EZ (by rw [DE.toE_id];exact h2)⟩
       ·subst h1
        refine List.mem_map.2 ⟨e.toE,hm,?_⟩
        rw [DZ (by rw [hE])]
        show _=(⟨id,some (E,T.sz E,(l.set k (T.bd E x')).length),Aw T E nn 0 (l.set k (T.bd E x')),true⟩:As)
        rw [←hset]
        simp only [hE,List.length_set,g3,Nat.mul_one,Nat.add_zero]
      ·exact Yl.no
     ·exact Yl.no
    ·exact Yl.no
   ·exact Yl.no
  ·exact Yl.no
 ·exact Yl.no
end
end Go.PL
set_option linter.all false
namespace Go.PL
open Go Go.RowKit
variable {T:Be}
def U5 (st:Ag T) (E:Nat):Nat→List (DC T)→Option (List (T.den E)×List Ah)
 | 0,[]=>some ([],[])
 | 0,_::_=>none
 | n+1,cs=>match MF st (T.ks E) (cs.take (T.sz E)),U5 st E n (cs.drop (T.sz E))with
   | some (z,rs),some (l,rs')=>some (T.bd E z::l,rs++rs')
   | _,_=>none
structure nR (st:Ag T) (E:Nat) (cs:List (DC T)) (l:List (T.den E)) (rs:List Ah) (b:Nat) (ars:List AR):Prop where
 ids:ars.map (·.r)=rs
 len:cs.length=l.length*T.sz E
 at_: ∀ x∈ars,st.toSt.look x.r=some x.ent∧b≤x.k∧x.k<b+cs.length∧(Aq cs)[x.k - b]? =some (.osl x.r)
 sets: ∀ pre post:List C,pre.length=b→Gy (pre++((Aq cs).map JE++post)) ars=pre++(l.flatMap (T.denc E)++post)
 pure:Ao ((Aq cs).map JE)=true
 noi:((Aq cs).map JE).all Yu=true
theorem Zx (cs:List (DC T)) (n:Nat):Aq cs=Aq (cs.take n)++Aq (cs.drop n):=by
 rw [BK,BK,BK, ←List.map_append,List.take_append_drop]
theorem Wc (l:List C) (a b:List AR):Gy l (a++b)=Gy (Gy l a) b:=by unfold Gy;rw [List.foldl_append]
theorem RW {st:Ag T} {E:Nat}: ∀ {n:Nat} {cs:List (DC T)} {l:List (T.den E)} {rs:List Ah},U5 st E n cs=some (l,rs)→ ∀ b:Nat, ∃ ars,nR st E cs l rs b ars∧l.length=n
 | 0,[],l,rs,h,b=>by
   simp only [U5,Option.some.injEq]at h
   injection h with h1 h2
   subst h1 h2
   exact⟨[],⟨rfl,by simp,(fun x hx=>nomatch hx),(fun pre post _=>rfl),rfl,rfl⟩,rfl⟩
 | 0,_::_,_,_,h,_=>by simp [U5]at h
 | n+1,cs,l,rs,h,b=>by
   unfold U5 at h
   split at h
   ·rename_i z rs1 l' rs' h1 h2
    injection h with h;injection h with e1 e2;subst e1 e2
    obtain⟨a1,ha⟩:=GV h1 b
    obtain⟨a2,hb,hl⟩:=RW h2 (b+T.sz E)
    have hlen:(cs.take (T.sz E)).length =T.sz E:=ha.len
    have hle:T.sz E≤cs.length:=by rw [List.length_take]at hlen;omega
    have hd:(cs.drop (T.sz E)).length =cs.length - T.sz E:=List.length_drop
    have htl:(Aq (cs.take (T.sz E))).length =T.sz E:=by rw [Ax,hlen]
    have hsp:=Zx cs (T.sz E)
    have hdz:BA T (T.ks E) z=T.denc E (T.bd E z):=by rw [Be.denc,T.unmk]
    refine⟨a1++a2,⟨by rw [List.map_append,ha.ids,hb.ids],?_,fun x hx=>?_,fun pre post hp=>?_,?_,?_⟩,by simp [hl]⟩
    ·have:=hb.len
     rw [hd]at this
     rw [List.length_cons,Nat.add_mul,Nat.one_mul];omega
    ·rcases List.mem_append.1 hx with hx | hx
     ·obtain⟨p1,p2,p3,p4⟩:=ha.at_ x hx
      have p3:x.k<b+T.sz E:=p3
      refine⟨p1,p2,by omega,?_⟩
      rw [hsp,List.getElem?_append_left (by rw [htl];omega)];exact p4
     ·obtain⟨p1,p2,p3,p4⟩:=hb.at_ x hx
      rw [hd]at p3
      refine⟨p1,by omega,by omega,?_⟩
      rw [hsp,List.getElem?_append_right (by rw [htl];omega),htl,show x.k - b - T.sz E=x.k - (b+T.sz E) by omega];exact p4
    ·rw [hsp,List.map_append,List.append_assoc,Wc,ha.sets pre _ hp,hdz]
     have:=hb.sets (pre++T.denc E (T.bd E z)) post (by rw [List.length_append,hp,Du])
     rw [List.append_assoc]at this
     rw [this,List.flatMap_cons,List.append_assoc,List.append_assoc]
    ·rw [hsp,List.map_append,Bk,ha.pure,hb.pure];rfl
    ·rw [hsp,List.map_append,List.all_append,ha.noi,hb.noi];rfl
   ·cases h
theorem O5 {E:Nat} {n:Int}: ∀ {l:List (T.den E)} {k:Int},k+l.length≤n→Aw T E n k l=l.flatMap (T.denc E)
 | [],_,_=>rfl
 | x::l,k,h=>by
   simp only [List.length_cons]at h
   rw [Aw,if_pos (by omega),O5 (by omega),List.flatMap_cons]
def O6 (rs:List Ah) (r i:Ah):Bool:=match A1 i r with
 | true=>true
 | false=>match A1 i (1000003::r)with
   | true=>true
   | false=>ME rs (1000003::r) i
theorem Kh {rs:List Ah} {r i:Ah} (h:O6 rs r i=false):i ≠ r∧i ≠ 1000003::r∧ME rs (1000003::r) i=false∧Dm (1000003::r) i=false:=by
 unfold O6 at h
 split at h
 ·cases h
 ·rename_i h1
  split at h
  ·cases h
  ·rename_i h2
   refine⟨fun q=>(by rw [Az.2 q]at h1;cases h1),fun q=>(by rw [Az.2 q]at h2;cases h2),h,?_⟩
   have: ∀ rs:List Ah,ME rs (1000003::r) i=false→Dm (1000003::r) i=false:=by
    intro rs
    induction rs with
    | nil=>intro q;simpa only [ME,Jo] using q
    | cons y rs ih=>
      intro q
      simp only [ME]at q
      split at q
      ·cases q
      ·exact ih q
   exact this rs h
def nS (P:Program) (o:Oper) (st:Ag T):M (Ag T):=match o.op,o.dst with
 | .buildSlice t len ps,some d=>match D8 P t,Hq st [] ps.toList with
   | some (E,n,_),some vs=>match LD P E with
     | some z=>match OO (fun i=>some (i*n,n)) ((List.replicate len z).flatMap id) (vs.map fun x=>(x.1,J7 x.2))with
       | some cs=>match U5 st E len cs with
         | some (l,rs)=>mIf ((Nat.beq n (T.sz E)&&(Nat.beq z.length n&&(Nat.blt 0 n&&Nat.ble (len*n) (2 ^ 24))))&&(Nat.blt 0 len&&(Jb rs&&(!LK rs (d::st.pre)&&(!Ed (d::st.pre)&& !CJ (d::st.pre))))))
          (.ret ((Bm [(1000003::d::st.pre, .deep E (l.length:Nat) l none)] (st.killD (O6 rs (d::st.pre)))).put (some d) (.c (.c (.osl (1000003::d::st.pre))))))
         | none=> .no
       | none=> .no
     | none=> .no
   | _,_=> .no
 | _,_=> .no
theorem XX {p q:Ah→Bool} (h: ∀ i,q i=true→p i=true) {v:V} (hv:v.menP p=false):BR q v=v:=by
 unfold BR;rw [if_neg (by rw [Ev h v hv];simp)]
theorem Wd {p:Ah→Bool} {r:Ah} (hr:p r=true) {v:V} (hv:v.menP p=false):D5 r v=v:=by
 unfold D5
 split
 ·rename_i h
  have:=VC p r v hv h
  rw [hr]at this;cases this
 ·rfl
theorem UQ.put {p:Ah→Bool} {id:Ah} {ns:List Ah} {new:As} {A B:St} (h:UQ p id ns new A B) (d:Nat) {v:V} (hv:v.menP p=false):UQ p id ns new (A.put (some d) v) (B.put (some d) v):=by
 refine⟨by simp [St.put,h.len],fun i=>?_,h.glen,h.gh,h.so,h.nd,h.pre⟩
 have hl:=h.len
 have:=h.tm i
 simp only [St.put,List.getD_eq_getElem?_getD,List.getElem?_set,hl]at this ⊢
 by_cases hd:d=i
 ·rw [if_pos hd]
  split
  ·exact .inr ⟨rfl,by simpa using hv⟩
  ·exact .inl rfl
 ·simp only [if_neg hd];exact this
theorem kW {H:At T} {P:Program} {I:World→Prop} {st:Ag T} (hw:AB H st) {o:Oper}:Yl (nS P o st) (fun st'=>(∃ H',Nx H st H' st')∧st'.pre=st.pre∧ ∀ K:St→Prop,K st'.toSt→Eg P I o st.toSt K):=by
 unfold nS
 split
 ·rename_i t len ps d hop hd
  split
  ·rename_i E n by' vs hsel hp
   split
   ·rename_i z hz
    split
    ·rename_i cs hf
     split
     ·rename_i l rs hea
      refine Yl.mIf fun hg=>?_
      simp only [Bool.and_eq_true,Nat.beq_eq,Nat.blt_eq,Nat.ble_eq,Bool.not_eq_true']at hg
      obtain⟨⟨g1,g2,g3,g4⟩,g5,g6,g7,g8,g9⟩:=hg
      subst g1
      generalize hr0:d::st.pre=r0 at g7 g8 g9 ⊢
      have hrs:r0∉rs:=fun q=>by rw [LM.2 q]at g7;cases g7
      obtain⟨ars,ha,hl⟩:=RW hea 0
      obtain⟨⟨H1,n1⟩,k4,k5⟩:=Jr hw (O6 rs r0)
      obtain⟨H2,n2⟩:=IP (l:=[(1000003::r0,DX.deep E (l.length:Nat) l none)]) n1 (fun p hp=>by rcases List.mem_singleton.1 hp with rfl;trivial) (by simp) (fun p hp e he q=>by
       rcases List.mem_singleton.1 hp with rfl
       have:=(Kh (k5 e he).2.1).2.1
       exact this q)
      obtain⟨s1,s2,s3,s4,s5,_⟩:=EU [(1000003::r0,DX.deep E (l.length:Nat) l none)] (st.killD (O6 rs r0))
      obtain⟨H3,n3⟩:=Ag.put_spec n2 (some d) (v:= .c (.c (.osl (1000003::r0)))) (by simp only [DV.ok,DC.ok])
      refine Yl.ret ⟨⟨H3,n3⟩,by rw [AL,s3];exact k4,fun K hK F a w G Q hI hR=>?_⟩
      obtain⟨p1,p2,p3⟩:=F5 (key:=[]) hw (fun _ hl=>by cases hl) rfl hp
      obtain⟨z1,z2⟩:=F8 hz
      obtain⟨f1,_⟩:=Hr hf
      rw [LF z (by omega),Ro]at f1
      change (st.toSt.parts true ps.toList).1 at p2
      change (st.toSt.parts true ps.toList).2=ey vs at p3
      rw [←p3]at f1
      obtain⟨arr',q1,q2,q3,q4,q5⟩:=G7 hR hsel z1 f1 p2 (by rw [Ax];exact g2) g3 g4
      have hrun:(execOp a.eval o).run P w= .ok (.value (.slice (some ⟨w.heap.size,0,none⟩) len len)) (w.alloc (.cells arr' E)):=by
       simp [execOp,hop,q1]
      have hml:((Aq cs).map JE).length =len*T.sz E:=by rw [List.length_map];exact q3
      have hrow:=hR.row r0 E (T.sz E) len len ((Aq cs).map JE) arr' arr'.toList (RO q2) (by rw [List.take_length]) hml q4 (Nat.le_refl _) q5 true (fun _=>ha.pure)
      have hmemr:(⟨r0,some (E,T.sz E,len),(Aq cs).map JE,true⟩:As)∈(st.toSt.new ⟨r0,some (E,T.sz E,len),(Aq cs).map JE,true⟩).so :=by
       simp only [St.new,Og,g8,g9,Bool.or_self,As.kill]
       exact List.mem_cons_self
      have hlkr:=hrow.look_of hmemr rfl g8 rfl
      obtain⟨G2,h2,h3,h4⟩:=hrow.deepen' hlkr rfl rfl ha.noi (id:=1000003::r0) rfl rfl
      have hown:G2.own (1000003::r0)=some (.slice (some ⟨w.heap.size,0,none⟩) len len):=by rw [h3];simp [BS]
      have hL:=h2.lookD_of List.mem_cons_self rfl rfl
      have hb:G2.blk (1000003::r0)=some w.heap.size:=by
       obtain⟨hm,_⟩:=Kz hL
       have hE:=h2.store _ hm
       simp only [AX]at hE
       obtain⟨_,v,v1,v2⟩:=hE
       rw [hown]at v1
       injection v1 with v1
       rcases v2 with ⟨p,_,v3,_⟩ | ⟨b,cap,cur,v3,v4,_⟩
       ·omega
       ·rw [←v1]at v3
        injection v3 with v3 _ _
        injection v3 with v3
        injection v3 with v3
        rw [v3];exact v4
      have h5:=h2.put (d:=some d) (v:= .slice (some ⟨w.heap.size,0,none⟩) len len) (x:= .c (.osl (1000003::r0))) (by simp only [Ab,Ad];exact⟨hown,rfl⟩)
      have hL5:=h5.lookD_of (e:=⟨1000003::r0,some (E,T.sz E,len),(Aq cs).map JE,true⟩) (id:=1000003::r0) (by simp only [St.put];exact List.mem_cons_self) rfl rfl
      have hent: ∀ e∈st.toSt.so,e.id ≠ r0→e.id ≠ 1000003::r0→(e.pu=true∨CO (O6 rs r0) e.cs=false)→e∈((st.toSt.new ⟨r0,some (E,T.sz E,len),(Aq cs).map JE,true⟩).killP (fun i=>i==r0||(i==1000003::r0||Dm (1000003::r0) i)) (⟨1000003::r0,some (E,T.sz E,len),(Aq cs).map JE,true⟩::(((st.toSt.new ⟨r0,some (E,T.sz E,len),(Aq cs).map JE,true⟩).so.filter (fun d=>d.id != r0&&d.id != 1000003::r0)).map (As.killP (fun i=>i==r0||(i==1000003::r0||Dm (1000003::r0) i)))))).so :=by
       intro e he e1 e2 e3
       simp only [St.killP,List.mem_cons,List.mem_map,List.mem_filter]
       right
       have hk:e.kill r0=e:=by
        obtain⟨i,r,c,pu⟩:=e
        cases pu with
        | true=>rfl
        | false=>
          rcases e3 with e3 | e3
          ·cases e3
          ·exact As.kill_eq (by
            simp only [As.fre,Bool.false_or,Bool.not_eq_true']
            cases hq:BE r0 c with
            | false=>rfl
            | true=>
              have:=QI (O6 rs r0) r0 c e3 hq
              simp [O6,Az.2 rfl]at this)
       have hkp:e.killP (fun i=>i==r0||(i==1000003::r0||Dm (1000003::r0) i))=e:=by
        obtain⟨i,r,c,pu⟩:=e
        cases pu with
        | true=>rfl
        | false=>
          rcases e3 with e3 | e3
          ·cases e3
          ·simp only [As.killP,As.mk.injEq,true_and,and_true]
           refine NC (Eu (p:=O6 rs r0) (fun i hi=>?_) c e3)
           cases hq:O6 rs r0 i with
           | true=>rfl
           | false=>
             obtain⟨t1,t2,_,t4⟩:=Kh hq
             simp [t1,t2,t4]at hi
       refine⟨e,⟨?_,by simp [e1,e2]⟩,hkp⟩
       simp only [St.new,Og,g8,g9,Bool.or_self,As.kill]
       refine List.mem_cons_of_mem _ ?_
       simp only [St.kill,List.mem_map,List.mem_filter]
       exact⟨e,⟨he,by simp [e1,g9]⟩,hk⟩
      have hsub: ∀ i,(i==r0||(i==1000003::r0||Dm (1000003::r0) i))=true→O6 rs r0 i=true:=fun i hi=>by
       cases hq:O6 rs r0 i with
       | true=>rfl
       | false=>
         obtain⟨t1,t2,_,t4⟩:=Kh hq
         simp [t1,t2,t4]at hi
      have hsub2: ∀ i,ME rs (1000003::r0) i=true→O6 rs r0 i=true:=fun i hi=>by
       cases hq:O6 rs r0 i with
       | true=>rfl
       | false=>rw [(Kh hq).2.2.1]at hi;cases hi
      have hself:O6 rs r0 r0=true:=by simp [O6,Az.2 rfl]
      have hval: ∀ v:V,v.menP (O6 rs r0)=false→BR (fun i=>i==r0||(i==1000003::r0||Dm (1000003::r0) i)) (D5 r0 v)=v:=fun v hv=>by
       rw [Wd hself hv,XX hsub hv]
      have hcellD:(C.osl (1000003::r0)).menP (ME rs (1000003::r0))=false:=by
       simp only [C.menP]
       have: ∀ rs':List Ah,(∀ x∈rs',Ed x=false)→ME rs' (1000003::r0) (1000003::r0)=false:=by
        intro rs'
        induction rs' with
        | nil=>
          intro _
          simp only [ME,Jo]
          cases hq:Dm (1000003::r0) (1000003::r0)with
          | false=>rfl
          | true=>have:=Hi hq;cases this
        | cons y rs' ih=>
          intro hy
          simp only [ME]
          split
          ·rename_i hq
           have:=Az.1 hq
           have h8:=hy y (by simp)
           rw [←this]at h8;cases h8
          ·exact ih fun x hx=>hy x (by simp [hx])
       refine this rs fun x hx=>?_
       rw [←ha.ids]at hx
       obtain⟨ar,har,rfl⟩:=List.mem_map.1 hx
       exact En (ha.at_ ar har).1
      obtain⟨G',q⟩:=h5.absorbL (p:=ME rs (1000003::r0)) ars hL5 hb (fun ar har=>by
       obtain⟨p1,_,p3',p4⟩:=ha.at_ ar har
       obtain⟨hmr,hidr⟩:=A0 p1
       have hnd:=En p1
       have hin:ar.r∈rs:=by rw [←ha.ids];exact List.mem_map.2 ⟨ar,har,rfl⟩
       have hrr:ar.r ≠ r0:=fun q=>hrs (q▸hin)
       have hrD:ar.r ≠ 1000003::r0:=fun q=>by rw [q]at hnd;cases hnd
       obtain⟨v,v1,v2⟩:=RP q2 p4
       simp only [Ad]at v2
       refine⟨h5.look_of (hent _ hmr (by rw [hidr];exact hrr) (by rw [hidr];exact hrD) (.inl rfl)) hidr hnd rfl,by rw [List.length_map,Ax];omega,V9 hin,v,?_,?_⟩
       ·rw [Nat.sub_zero]at v1
        have:=Ih w arr' E ar.k v (by simpa using v1)
        simpa using this
       ·rw [h4 ar.r hrr hrD]
        simp only [BS,if_neg hrr]
        exact v2.1) (by rw [ha.ids];exact FZ g6) ((Bm [(1000003::r0,DX.deep E (l.length:Nat) l none)] (st.killD (O6 rs r0))).put (some d) (.c (.c (.osl (1000003::r0))))).toSt (by
       rw [Ag.put_toSt]
       refine UQ.put ?_ d (by simp only [DV.toV,DC.toC,V.menP];exact hcellD)
       have hnew:TB (1000003::r0,(DX.deep E (l.length:Nat) l none:DX T))=⟨1000003::r0,some (E,T.sz E,len),Gy ((Aq cs).map JE) ars,true⟩:=by
        show (⟨1000003::r0,some (E,T.sz E,l.length),Aw T E (l.length:Nat) 0 l,true⟩:As)=_
        have:=ha.sets [] [] rfl
        simp only [List.nil_append,List.append_nil]at this
        rw [this,O5 (by simp),hl]
       have etm:(Bm [(1000003::r0,DX.deep E (l.length:Nat) l none)] (st.killD (O6 rs r0))).toSt.tm =(st.killD (O6 rs r0)).toSt.tm :=by simp only [Ag.toSt,s1,s4]
       have egh:(Bm [(1000003::r0,DX.deep E (l.length:Nat) l none)] (st.killD (O6 rs r0))).toSt.gh =(st.killD (O6 rs r0)).toSt.gh :=by simp only [Ag.toSt,s2]
       have hz2: ∀ (r:Ah),D5 r .undef = .undef :=fun r=>by simp [D5,V.men]
       have hz3: ∀ (p:Ah→Bool),BR p .undef = .undef :=fun p=>by simp [BR,V.menP]
       have gm: ∀ (m:List V) (f:V→V),f .undef = .undef → ∀ i,(m.map f).getD i .undef =f (m.getD i .undef):=fun m f hf i=>by
        simp only [List.getD_eq_getElem?_getD,List.getElem?_map]
        cases m[i]? <;>simp [hf]
       refine⟨?_,fun i=>?_,?_,fun i=>?_,fun x hx=>?_,FO n2.ok,?_⟩
       ·rw [etm]
        show (Au _ _).length =_
        simp only [St.killP,St.new,St.kill,List.length_map,Bf]
        show _=(Au _ _).length
        rw [Bf];rfl
       ·rw [etm]
        rcases RM (p:=O6 rs r0) st.m st.nx st.tm i with q | ⟨q,q'⟩
        ·exact .inl q
        ·right
         have e:(St.killP (st.toSt.new ⟨r0,some (E,T.sz E,len),(Aq cs).map JE,true⟩) (fun i=>i==r0||(i==1000003::r0||Dm (1000003::r0) i)) (⟨1000003::r0,some (E,T.sz E,len),(Aq cs).map JE,true⟩::(((st.toSt.new ⟨r0,some (E,T.sz E,len),(Aq cs).map JE,true⟩).so.filter (fun d=>d.id != r0&&d.id != 1000003::r0)).map (As.killP (fun i=>i==r0||(i==1000003::r0||Dm (1000003::r0) i)))))).tm.getD i .undef =st.toSt.tm.getD i .undef :=by
          simp only [St.killP,St.new,St.kill]
          rw [gm _ _ (hz3 _),gm _ _ (hz2 _)]
          exact hval _ q'
         rw [e]
         exact⟨q,Ev hsub2 _ q'⟩
       ·rw [egh]
        have:=(XT (p:=O6 rs r0) st.gh (st.nx+st.tm.length)).1
        simp only [St.killP,St.new,St.kill,List.length_map]
        exact this
       ·rw [egh]
        rcases (XT (p:=O6 rs r0) st.gh (st.nx+st.tm.length)).2 i with q | ⟨q,q'⟩
        ·exact .inl q
        ·right
         have e:(St.killP (st.toSt.new ⟨r0,some (E,T.sz E,len),(Aq cs).map JE,true⟩) (fun i=>i==r0||(i==1000003::r0||Dm (1000003::r0) i)) (⟨1000003::r0,some (E,T.sz E,len),(Aq cs).map JE,true⟩::(((st.toSt.new ⟨r0,some (E,T.sz E,len),(Aq cs).map JE,true⟩).so.filter (fun d=>d.id != r0&&d.id != 1000003::r0)).map (As.killP (fun i=>i==r0||(i==1000003::r0||Dm (1000003::r0) i)))))).gh.getD i .undef =st.toSt.gh.getD i .undef :=by
          simp only [St.killP,St.new,St.kill]
          rw [gm _ _ (hz3 _),gm _ _ (hz2 _)]
          exact hval _ q'
         rw [e]
         exact⟨q,Ev hsub2 _ q'⟩
       ·rw [s5]at hx
        simp only [List.map_cons,List.map_nil,List.singleton_append,List.mem_cons]at hx
        rcases hx with rfl | hx
        ·exact .inl hnew
        ·right
         obtain⟨e,he,rfl⟩:=List.mem_map.1 hx
         obtain⟨c1,c2,c3⟩:=k5 e he
         obtain⟨t1,t2,t3,_⟩:=Kh c2
         have hpm:e.toE.pu=true∨CO (O6 rs r0) e.toE.cs=false:=by
          unfold DE.toE
          cases hx:e.x with
          | box cs=>
            right
            rw [hx]at c3
            simpa only [DX.menP,ES] using c3
          | row E l=>exact .inl rfl
          | deep E n l h=>exact .inl rfl
         refine⟨hent _ (List.mem_map.2 ⟨e,c1,rfl⟩) (by rw [DE.toE_id];exact t1) (by rw [DE.toE_id];exact t2) hpm,by rw [DE.toE_id];exact t2,?_,hpm.imp (fun q=>q) (fun q=>Eu hsub2 _ q)⟩
         rw [DE.toE_id,ha.ids]
         intro hin
         rw [P7 hin]at t3;cases t3
       ·show (Bm _ _).pre =st.pre
        rw [s3];exact k4)
      exact AM hrun ⟨_,G',hK,by rw [hd];exact q⟩
     ·exact Yl.no
    ·exact Yl.no
   ·exact Yl.no
  ·exact Yl.no
 ·exact Yl.no
end Go.PL
namespace Go.PL
open Go Go.RowKit
variable {T:Be}
def jn {X R:Type} (J:X→Option R) (body:(X→Option R)→Option R):Option R:=body J
inductive Sp where
 | co
 | sub (md:Bool)
 | clr
 | apb
 | dlx
 | dsa
 | dse
 | mk
 | ss
 | ins
 | bf
 | sb
 | mld
 | mix
 | mst
 | au
inductive Gh where
 | tr (d:Nat)
 | dp (d:Nat)
 | fd (id:Ah)
 | ug (ks:List Nat)
mutual
inductive Hn where
 | n
 | s (a b:Hn)
 | j (sh:Gq) (a b:Hn)
 | i (a b:Hn)
 | l (sh:Gq) (xs:List (Nat×Gq)) (b:Hn)
 | r (fz:List Ah) (ow:List (Ah×Nat×Ah×Nat)) (il:Hl)
 | x
inductive Hl where
 | n
 | c (k:Nat) (h:Hn) (r:Hl)
 | j (k:Nat) (sh:Gq) (h:Hn) (r:Hl)
 | q (k:Nat) (sp:Sp) (r:Hl)
 | u (k:Nat) (ks:List Nat) (ke:List Ah) (kd:Kd) (h:Hn) (r:Hl)
 | g (k:Nat) (gh:Gh) (r:Hl)
 | t (r:Hl)
end
def Hn.a:Hn→Hn
 | .s a _=>a
 | .i a _=>a
 | _=> .n
def Hn.b:Hn→Hn
 | .s _ b=>b
 | .i _ b=>b
 | _=> .n
inductive HA where
 | n
 | c (h:Hn)
 | j (sh:Gq) (h:Hn)
 | q (sp:Sp)
 | u (ks:List Nat) (ke:List Ah) (kd:Kd) (h:Hn)
def JF:Hl→Nat→HA
 | .n,_=> .n
 | .c k h r,i=>match Nat.beq k i with
   | true=> .c h
   | false=>JF r i
 | .j k sh h r,i=>match Nat.beq k i with
   | true=> .j sh h
   | false=>JF r i
 | .q k sp r,i=>match Nat.beq k i with
   | true=> .q sp
   | false=>JF r i
 | .u k ks ke kd h r,i=>match Nat.beq k i with
   | true=> .u ks ke kd h
   | false=>JF r i
 | .g _ _ r,i=>JF r i
 | .t r,i=>JF r i
def nT:Hl→Bool
 | .t _=>true
 | _=>false
def nU:Gh→Ag T→M (Ag T)
 | .tr d,st=>nP d st
 | .dp d,st=>m8 d st
 | .fd id,st=>match st.frzD id with
   | some s=> .ret s
   | none=> .no
 | .ug ks,st=> .ret (mz ks st)
def NM:Hl→Nat→Ag T→M (Ag T)
 | .n,_,st=> .ret st
 | .c _ _ r,i,st=>NM r i st
 | .j _ _ _ r,i,st=>NM r i st
 | .q _ _ r,i,st=>NM r i st
 | .u _ _ _ _ _ r,i,st=>NM r i st
 | .t r,i,st=>NM r i st
 | .g k g r,i,st=>match Nat.beq k i with
   | true=> .bnd (nU g st) (NM r i)
   | false=>NM r i st
theorem kX {H:At T} {st:Ag T} (hw:AB H st) (g:Gh):Yl (nU g st) (fun st'=>(∃ H',Nx H st H' st')∧st'.pre=st.pre∧Wk st.toSt st'.toSt):=by
 cases g with
 | tr d=>exact kM hw
 | dp d=>exact eU hw
 | ug ks=>exact Yl.ret (kR hw ks)
 | fd id=>
   unfold nU
   simp only
   split
   ·rename_i s hs
    obtain⟨a,b,c⟩:=cM hw hs
    exact Yl.ret ⟨a,c,b⟩
   ·exact Yl.no
theorem E8 (i:Nat): ∀ (il:Hl) {H:At T} {st:Ag T},AB H st→Yl (NM il i st) (fun st'=>(∃ H',Nx H st H' st')∧st'.pre=st.pre∧Wk st.toSt st'.toSt)
 | .n,H,st,hw=>Yl.ret ⟨⟨H,Nx.refl hw⟩,rfl,Wk.less (Ck.refl _)⟩
 | .c _ _ r,H,st,hw=>E8 i r hw
 | .j _ _ _ r,H,st,hw=>E8 i r hw
 | .q _ _ r,H,st,hw=>E8 i r hw
 | .u _ _ _ _ _ r,H,st,hw=>E8 i r hw
 | .t r,H,st,hw=>E8 i r hw
 | .g k g r,H,st,hw=>by
   unfold NM
   split
   ·refine Yl.bnd (kX hw g) fun s hs=>?_
    obtain⟨⟨H1,n1⟩,p1,w1⟩:=hs
    refine(E8 i r n1.ok).mono fun s' hs'=>?_
    obtain⟨⟨H2,n2⟩,p2,w2⟩:=hs'
    exact⟨⟨H2,n1.trans n2⟩,p2.trans p1,w1.trans w2⟩
   ·exact E8 i r hw
def Zy (st:Ag T) (xs:List Operand):List Ah:=match Gx st [] xs with
 | some vs=>MC vs
 | none=>[]
theorem Js: ∀ {l:List Ah} {st:Ag T} {H:At T},AB H st→(Ex l st).pre =st.pre
 | [],_,_,_=>rfl
 | i::r,st,H,h=>by
   unfold Ex
   split
   ·rename_i s hs
    obtain⟨⟨H1,a⟩,_,_,b⟩:=Ag.frz_spec h hs
    rw [Js a.ok,b]
   ·exact Js h
theorem Eg.wk {P:Program} {I:World→Prop} {o:Oper} {A B:St} {K:St→Prop} (hk:Wk A B) (h:Eg P I o B K):Eg P I o A K:=fun F a w G Q hI hR=>by
 obtain⟨G',q⟩:=hk F a w G hR
 exact h F a w G' Q hI q
def Zz (st:Ag T):List (Nat×Operand)→List Ah
 | []=>[]
 | p::r=>Zy st [p.2]++Zz st r
def nV (P:Program) (o:Oper) (st:Ag T):M (Ag T):=match o.op with
 | .buildSlice _ _ ps=>cj P (Ex (Zz st ps.toList) st) o
 | _=> .no
theorem kY {H:At T} {P:Program} {I:World→Prop} {st:Ag T} (hw:AB H st) {o:Oper}:Yl (nV P o st) (fun st'=>(∃ H',Nx H st H' st')∧st'.pre=st.pre∧ ∀ K:St→Prop,K st'.toSt→Eg P I o st.toSt K):=by
 unfold nV
 split
 ·rename_i ps hop
  obtain⟨⟨H1,n1⟩,w1⟩:=ER (l:=Zz st ps.toList) (Nx.refl hw)
  refine(P4 n1.ok o).mono fun st' h=>?_
  obtain⟨⟨H2,n2⟩,h2,h3,h4⟩:=h
  refine⟨⟨H2,n1.trans n2⟩,h4.trans (Js hw),fun K hK=>Eg.wk w1 fun F a w G Q hI hR=>?_⟩
  obtain⟨nx,w',G',q1,q2⟩:=(Mj hR h2).out
  unfold Oper.wp Oper.upon
  rw [q1]
  rcases q2 with ⟨v,rfl,q3⟩ | ⟨rfl,q3⟩
  ·exact⟨_,G',hK,q3.less h3⟩
  ·exact⟨_,G',hK,q3.less h3⟩
 ·exact Yl.no
def lZ {P:Program} {I:World→Prop} (Γ:List (CE T P I)) (o:Oper) (st:Ag T):Sp→M (Ag T)
 | .co =>match B2 o.op,o.dst with
   | .call f xs,some d=>Zu Γ (Ex (Zy st xs) st) f xs d
   | _,_=> .no
 | .au => .no
 | .sub md=>iu P o md st
 | .clr =>kK P o st
 | .apb =>kL P o st
 | .dlx =>dlx P o st
 | .dsa =>dsa P o st
 | .dse =>dse P o st
 | .mk =>nQ P o st
 | .ss =>EX P o st
 | .ins =>kS Γ o st
 | .bf =>nV P o st
 | .sb =>nS P o st
 | .mld =>kT P o st
 | .mix =>kU P o st
 | .mst =>kV P o st
theorem kZ {H:At T} {P:Program} {I:World→Prop} {Γ:List (CE T P I)} {st:Ag T} (hw:AB H st) (o:Oper) (sp:Sp):Yl (lZ Γ o st sp) (fun st'=>(∃ H',Nx H st H' st')∧st'.pre=st.pre∧ ∀ K:St→Prop,K st'.toSt→Eg P I o st.toSt K):=by
 cases sp with
 | co=>
   unfold lZ
   simp only
   split
   ·rename_i f xs d hk hd
    obtain⟨⟨H1,n1⟩,w1⟩:=ER (l:=Zy st xs) (Nx.refl hw)
    refine(cJ n1.ok hk hd).mono fun s ⟨⟨H2,n2⟩,p2,k2⟩=>⟨⟨H2,n1.trans n2⟩,p2.trans (Js hw),fun K hK=>Eg.wk w1 (k2 K hK)⟩
   ·exact Yl.no
 | au=>exact Yl.no
 | sub md=>exact(aZ hw).mono fun _ ⟨a,b,c⟩=>⟨a,b,fun K hK=>c.esc hK⟩
 | clr=>exact iw hw
 | apb=>exact iy hw
 | dlx=>exact(eT hw).mono fun _ ⟨a,b,c⟩=>⟨a,b,fun K hK=>c.esc hK⟩
 | dsa=>exact kI hw
 | dse=>exact kJ hw
 | mk=>exact kP hw
 | ss=>exact kQ hw
 | ins=>exact iB hw
 | bf=>exact kY hw
 | sb=>exact kW hw
 | mld=>exact iD hw
 | mix=>exact iE hw
 | mst=>exact iG hw
def oA (P:Program) (st:Ag T) (o:Oper):Bool:=match o.op with
 | .load t x=>match st.arg [] x with
   | some (.c (.rp id _ _ _))=>Ed id&&(CZ P t).isSome
   | _=>false
 | _=>false
def oJ (st:Ag T) (o:Oper):Option Sp:=match o.op with
 | .store _ x y=>match st.arg [] x,st.arg [] y with
   | some (.c (.rp id _ _ _)),some v=>match Ed id,v with
     | true, .c (.c (.osl _))=>some .dsa
     | true, .agg _=>some .dse
     | true,_=>some .ss
     | false,_=>none
   | _,_=>none
 | _=>none
def iH {P:Program} {I:World→Prop} (Γ:List (CE T P I)) (ops:Array Oper) (o:Oper) (st:Ag T) (sp:Sp):M (Ag T):=match o.guard,sp with
 | none, .au =>match oA P st o,oJ st o with
   | true,_=>lZ Γ o st .dlx
   | false,some sp=>lZ Γ o st sp
   | false,none=>lX Γ ops o st
 | none,sp=>lZ Γ o st sp
 | some _,_=> .no
theorem a6 {H:At T} {P:Program} {I:World→Prop} {Γ:List (CE T P I)} {ops:Array Oper} {st:Ag T} (hw:AB H st) (o:Oper) (sp:Sp):Yl (iH Γ ops o st sp) (eG H P I ops st o):=by
 have A: ∀ sp,o.guard=none→Yl (lZ Γ o st sp) (eG H P I ops st o):=fun sp hg=>(kZ hw o sp).mono fun s ⟨a,b,c⟩=>⟨a,b,fun K hK=>by unfold Uh;rw [hg];exact .inl (c K hK)⟩
 unfold iH
 split
 ·rename_i hg
  split
  ·exact A _ hg
  ·exact A _ hg
  ·exact VW hw o
 ·rename_i hg _
  exact A _ hg
 ·exact Yl.no
def NN (P:Program) (I:World→Prop) (ops:Array Oper):List Oper→St→(St→Prop)→Prop
 | [],st,K=> ∃ s,Wk st s∧K s
 | o::rest,st,K=> ∃ s,Wk st s∧Uh P I ops o s (fun st'=>NN P I ops rest st' K)
theorem RX {P:Program} {F:Fr} {ops:Array Oper} {Q:Exit→Act→World→Prop} {K:St→Prop} (hQ: ∀ st' a' w' G',K st'→R F st' a' w' G'→Q .normal a' w'):
 ∀ (l:List Oper) (st:St) (a:Act) (w:World) (G:Ay),R F st a w G→NN P F.I ops l st K→wpList P ops Q l a w
 | [],st,a,w,G,h,⟨s,hwk,hs⟩=>by
   obtain⟨G',h'⟩:=hwk _ _ _ _ h
   exact hQ s a w G' hs h'
 | o::rest,st,a,w,G,h,⟨s,hwk,hs⟩=>by
   obtain⟨G',h'⟩:=hwk _ _ _ _ h
   refine wpList_step fun K' hK'=>?_
   have hnext: ∀ a' w',ah F (fun st'=>NN P F.I ops rest st' K) a' w'→K' a' w':=fun a' w' ⟨st',G',q,hR⟩=>
    hK' a' w' (RX hQ rest st' a' w' G' hR q)
   have:=Uu (Q:=Q) h' hs
   split at this
   ·rename_i hw
    rw [if_pos hw]
    exact Oper.wp_mono hnext this
   ·rename_i hw
    rw [if_neg hw]
    exact hnext _ _ this
theorem Ae.regionW {P:Program} {F:Fr} {st:St} {id:Nat} {ops:Array Oper} {Q:Exit→St→Prop} (h:NN P F.I ops ops.toList st (Q .normal)):Ae P F (.region id ops false) st Q:=
 fun _ _ G hR=>wp_region_list (RX (K:=Q .normal) (fun st' _ _ G' q hR'=>⟨st',G',q,hR'⟩) _ _ _ _ G hR h)
def cO (T:Be):=(R:Type)→Code→Hn→Ag T→(Exit→Ag T→Option R)→Option R
def XY (P:Program) (I:World→Prop) (rec:cO T):Prop:= ∀ (R:Type) (c:Code) (h:Hn) (st:Ag T) (H:At T) (K:Exit→Ag T→Option R) (r:R),AB H st→rec R c h st K=some r→
 ∀ (F:Fr) (Q:Exit→St→Prop),F.I=I→(∀ H' e st',Nx H st H' st'→K e st'=some r→Q e st'.toSt)→Ae P F c st.toSt Q
def Qa:DV T→Option (FuncId×Bool×List (DC T))
 | .c (.c (.fn f))=>some (f,false,[])
 | .c (.clo b f cs)=>some (f,b,cs)
 | _=>none
def KM (b:Bool) (caps vs:List (DV T)):List (DV T):=match b with
 | true=>caps++vs
 | false=>vs++caps
def cP:Option Nat→Nat
 | some d=>d
 | none=>0
def eY (P:Program) (fn:Func) (o:Oper) (st:Ag T) (R:Type) (K:Ag T→Option R) (e:Exit) (stc:Ag T):Option R:=match e with
 | .normal =>eO P stc fn.results.toList R fun v=>match stc.back st o.dst v with
   | some s=>K s
   | none=>none
 | .ret =>eO P stc fn.results.toList R fun v=>match stc.back st o.dst v with
   | some s=>K s
   | none=>none
 | _=>none
def ZA (P:Program) (rec:cO T) (o:Oper) (h:Hn) (st:Ag T) (R:Type) (K:Ag T→Option R):Option R:=
 match o.op,o.guard with
 | .call c,none=>match c.callee with
   | .value x=>match Qa (st.ev x),Gx st [] c.args.toList with
     | some (f,b,cs),some vs=>match P.funcs[f]? with
       | some fn=>match fn.body with
         | some body=>match ent P f&&Nat.ble (KM b (cs.map DV.c) vs).length fn.ntmps with
           | true=>rec R body h (st.enter (cP o.dst) (KM b (cs.map DV.c) vs) fn.ntmps) (eY P fn o st R K)
           | false=>none
         | none=>none
       | none=>none
     | _,_=>none
   | _=>none
 | _,_=>none
def jF (ks:List Nat) (ke:List Ah):Gq:=⟨ks,[],ke,[]⟩
def nW (ops:Array Oper) (o:Oper) (st:Ag T):Option (List GL×Nat):=match o.guard,o.dst with
 | some (j,want),some d=>match RD st ops j want with
   | some key=>some (key,d)
   | none=>none
 | _,_=>none
def Pp (key:List GL):List Operand→Ag T→Ag T
 | [],st=>st
 | .tmp t::r,st=>match st.get t with
   | .g k v=>match Lx k key with
     | true=>Pp key r (st.put (some t) v)
     | false=>Pp key r st
   | _=>Pp key r st
 | _::r,st=>Pp key r st
def eZ (o:Oper):List Operand:=match o.op with
 | .call c=>c.args.toList
 | _=>[]
theorem Jt {key:List GL} (hc:AV key=true): ∀ {l:List Operand} {H:At T} {st:Ag T},AB H st→Ei H st.nx key→(∃ H',Nx H st H' (Pp key l st))∧(Pp key l st).pre =st.pre∧ ∀ F a w G,R F st.toSt a w G→R F (Pp key l st).toSt a w G
 | [],H,st,hw,_=>⟨⟨H,Nx.refl hw⟩,rfl,fun _ _ _ _ h=>h⟩
 | .tmp t::r,H,st,hw,hk=>by
   unfold Pp
   split
   ·rename_i k v hg
    split
    ·rename_i hs
     have hok:=Ag.get_ok hw t
     rw [hg]at hok
     simp only [DV.ok]at hok
     have hck:=J1 hs hok.1 hk hc
     obtain⟨H1,n1⟩:=Ag.put_nx hw (some t) (hok.2 hck)
     have hk1:Ei H1 (st.put (some t) v).nx key:=fun l hl=>GL.ok_ext n1.ext n1.le (hk l hl)
     obtain⟨⟨H2,n2⟩,p2,h2⟩:=Jt (l:=r) hc n1.ok hk1
     refine⟨⟨H2,n1.trans n2⟩,p2.trans (AL _ _ _),fun F a w G hR=>h2 F a w G ?_⟩
     rw [Ag.put_toSt]
     refine hR.reslot ?_
     have hsl:Ab w G (st.toSt.get t) (a.tmps.getD t Go.undef):=hR.slots t
     rw [st.get_toSt t,hg]at hsl
     simp only [DV.toV,Ab]at hsl
     rwa [if_pos hck]at hsl
    ·exact Jt hc hw hk
   ·exact Jt hc hw hk
 | .const _::r,H,st,hw,hk=>by unfold Pp;exact Jt hc hw hk
 | .func _::r,H,st,hw,hk=>by unfold Pp;exact Jt hc hw hk
 | .global _::r,H,st,hw,hk=>by unfold Pp;exact Jt hc hw hk
def RY {P:Program} {I:World→Prop} (Γ:List (CE T P I)) (rec:cO T) (ops:Array Oper) (il:Hl):List Oper→Nat→Ag T→(R:Type)→(Ag T→Option R)→Option R
 | [],k,st,R,K=>NM il k st R K
 | o::rest,k,st,R,K=>NM il k st R fun st=>match JF il k with
   | .n =>lX Γ ops o st R fun st'=>RY Γ rec ops il rest (k+1) st' R K
   | .q sp=>iH Γ ops o st sp R fun st'=>RY Γ rec ops il rest (k+1) st' R K
   | .c h=>ZA P rec o h st R fun st'=>RY Γ rec ops il rest (k+1) st' R K
   | .j sh h=>jn (fun v:RT T sh.ts=>match sh.inst st (Cf sh.ts v)with
    | some s=>RY Γ rec ops il rest (k+1) s R K
    | none=>none) (fun j=>ZA P rec o h st R fun b=>match sh.gen st b with
    | some v=>j v
    | none=>none)
   | .u ks ke kd h=>match KD kd,nW ops o st with
    | true,some (key,d)=>jn (fun x:KA T.den kd=>RY Γ rec ops il rest (k+1) (((jF ks ke).base st).put (some d) (.g key (.c (.k kd x)))) R K)
     (fun j=>if AV key=true then ZA P rec {o with guard:=none} h (Pp key (eZ o) st) R fun b=>match (jF ks ke).gen st b,VR kd (b.get d)with
      | some _,some x=>j x
      | _,_=>none
     else j (aL T kd))
    | _,_=>none
section
variable {H:At T} {P:Program} {I:World→Prop} {Γ:List (CE T P I)} {rec:cO T} {st:Ag T} {ops:Array Oper}
theorem O7 {n:Nat} {a b:List (DV T)} (h:Cn H n a) (k:Cn H n b):Cn H n (a++b):=Hm.2 fun v hv=>by
 rcases List.mem_append.1 hv with q | q
 ·exact Hm.1 h v q
 ·exact Hm.1 k v q
theorem O8 (a b:List (DV T)):AO (a++b)=AO a++AO b:=by simp [JZ]
theorem U6 (cs:List (DC T)):AO (cs.map DV.c)=(Aq cs).map V.c:=by
 simp only [JZ,BK,List.map_map]
 exact List.map_congr_left fun c _=>by simp only [Function.comp,DV.toV]
theorem MJ (hrec:XY P I rec) (hw:AB H st) {o:Oper} {h:Hn} {R:Type} {K:Ag T→Option R} {r:R} (hr:ZA P rec o h st R K=some r)
 {PK:St→Prop} (hK: ∀ H' st',Nx H st H' st'→st'.pre=st.pre→K st'=some r→PK st'.toSt):o.guard=none∧Eg P I o st.toSt PK:=by
 unfold ZA at hr
 split at hr
 ·rename_i c hop hgd
  refine⟨hgd,?_⟩
  split at hr
  ·rename_i x hcal
   split at hr
   ·rename_i f b cs vs hf hvs
    split at hr
    ·rename_i fn hfn
     split at hr
     ·rename_i body hbody
      split at hr
      ·rename_i hm
       simp only [Bool.and_eq_true,Nat.ble_eq]at hm
       obtain⟨hent,hlen⟩:=hm
       obtain⟨a1,a2,a3⟩:=CK (key:=[]) hw (IK _ _) rfl hvs
       change (st.toSt.args true c.args.toList).1 at a2
       change (st.toSt.args true c.args.toList).2=AO vs at a3
       have hev:=Ag.ev_ok hw x
       have hevt:=st.ev_toSt x
       have hcs:BU cs:=by
        unfold Qa at hf
        split at hf
        ·simp only [Option.some.injEq,Prod.mk.injEq]at hf
         obtain⟨rfl,rfl,rfl⟩:=hf
         simp [BU]
        ·rename_i b' f' cs' he
         simp only [Option.some.injEq,Prod.mk.injEq]at hf
         obtain⟨rfl,rfl,rfl⟩:=hf
         rw [he]at hev
         simpa only [DV.ok,DC.ok] using hev
        ·cases hf
       have hcaps:Cn H st.nx (cs.map DV.c):=Hm.2 fun v hv=>by
        obtain⟨d,h1,rfl⟩:=List.mem_map.1 hv
        simp only [DV.ok]
        exact BV.1 hcs d h1
       have hargs:Cn H st.nx (KM b (cs.map DV.c) vs):=by
        cases b
        ·exact O7 a1 hcaps
        ·exact O7 hcaps a1
       obtain⟨H1,n1⟩:=eN hw (cP o.dst) fn.ntmps hargs
       have hst:=Zr (st:=st) (k:=cP o.dst) hlen
       have hm:st.toSt.tm.length=st.m:=Bf _ _
       have main: ∀ w0 av old gv,Ae P ⟨w0,av,old,I,gv⟩ body (st.toSt.enter (cP o.dst) (AO (KM b (cs.map DV.c) vs)) fn.ntmps) (lU P fn.results.toList st.toSt.tm.length st.toSt.pre o.dst PK):=by
        intro w0 av old gv
        rw [←hst]
        refine hrec _ _ _ _ _ _ _ n1.ok hr ⟨w0,av,old,I,gv⟩ _ rfl fun H' e stc hN hE=>?_
        have fin:eO P stc fn.results.toList R (fun v=>match stc.back st o.dst v with | some s=>K s | none=>none)=some r→
         (Cd P stc.toSt fn.results.toList).1∧PK (stc.toSt.back st.toSt.tm.length st.toSt.pre o.dst (Cd P stc.toSt fn.results.toList).2):=by
         intro hE
         obtain⟨v,⟨v1,v2,v3⟩,hE⟩:=io hN.ok fn.results.toList R _ r hE
         split at hE
         ·rename_i s hs
          obtain⟨⟨H2,b1⟩,b2,b3⟩:=cE (n1.trans hN) v1 hs
          refine⟨v2,?_⟩
          have:=hK H2 s b1 b3 hE
          rw [b2]at this
          rw [v3,hm]
          exact this
         ·cases hE
        cases e<;>simp only [lU]<;>first
         | exact fin hE
         | (simp [eY]at hE;done)
       cases b with
       | false=>
         have hcv:P0 st.toSt x=some (f,Aq cs):=by
          unfold P0
          rw [hevt]
          unfold Qa at hf
          split at hf
          ·rename_i f' he
           simp only [Option.some.injEq,Prod.mk.injEq]at hf
           obtain⟨rfl,_,rfl⟩:=hf
           rw [he];simp only [DV.toV,DC.toC,Aq]
          ·rename_i b' f' cs' he
           simp only [Option.some.injEq,Prod.mk.injEq]at hf
           obtain⟨rfl,rfl,rfl⟩:=hf
           rw [he];simp only [DV.toV,DC.toC]
          ·cases hf
         refine Eg.inline (cP o.dst) hop hcal rfl (s:=(st.toSt.args true c.args.toList).1) (vs:=AO vs) (by rw [←a3]) a2 hcv hent hfn hbody rfl (rs:=fn.results.toList) (by simp) ?_
         intro w0 av old gv
         have:=main w0 av old gv
         rw [KM,O8,U6]at this
         exact this
       | true=>
         have hcv:st.toSt.ev x= .c (.bmv f (Aq cs)):=by
          rw [hevt]
          unfold Qa at hf
          split at hf
          ·simp at hf
          ·rename_i b' f' cs' he
           simp only [Option.some.injEq,Prod.mk.injEq]at hf
           obtain⟨rfl,rfl,rfl⟩:=hf
           rw [he];simp only [DV.toV,DC.toC]
          ·cases hf
         refine Eg.inlineB (cP o.dst) hop hcal rfl (s:=(st.toSt.args true c.args.toList).1) (vs:=AO vs) (by rw [←a3]) a2 hcv hent hfn hbody rfl (rs:=fn.results.toList) (by simp) ?_
         intro w0 av old gv
         have:=main w0 av old gv
         rw [KM,O8,U6]at this
         exact this
      ·cases hr
     ·cases hr
    ·cases hr
   ·cases hr
  ·cases hr
 ·cases hr
theorem iI {P:Program} {I:World→Prop} {ops:Array Oper} {PK:St→Prop} {A B:St} (h:Wk A B): ∀ {l:List Oper},NN P I ops l B PK→NN P I ops l A PK
 | [],⟨s,h1,h2⟩=>⟨s,h.trans h1,h2⟩
 | _::_,⟨s,h1,h2⟩=>⟨s,h.trans h1,h2⟩
theorem cQ (sh:Gq) {H:At T} {st:Ag T} (hw:AB H st):Ck st.toSt (sh.base st).toSt :=by
 refine⟨?_,fun i=>?_,fun e he=>?_,fun _=>?_,⟨rfl,fun i=> .inr rfl⟩,rfl⟩
 ·show (Au _ _).length =(Au _ _).length
  rw [Bf,Bf];rfl
 ·show (Au st.m (FC sh.ks st.tm)).getD i .undef = .undef ∨(Au st.m (FC sh.ks st.tm)).getD i .undef =(Au st.m st.tm).getD i .undef
  rw [ID,ID]
  split
  ·rw [KI]
   split
   ·exact .inr rfl
   ·exact .inl (by simp only [DV.toV])
  ·exact .inl rfl
 ·obtain⟨d,hd,rfl⟩:=List.mem_map.1 he
  exact List.mem_map.2 ⟨d,(FD sh.ke st.so).1.subset hd,rfl⟩
 ·exact FO (Gq.base_nx sh hw).ok
theorem fa {A B:St} (h:Ck A B) (d:Option Nat) (x:V):Ck (A.put d x) (B.put d x):=by
 cases d with
 | none=>exact h
 | some d=>
   refine⟨by simp [St.put,h.len],fun i=>?_,h.so,h.nd,h.gh,h.pre⟩
   have hl:=h.len
   have:=h.tm i
   simp only [St.put,List.getD_eq_getElem?_getD,List.getElem?_set,hl]at this ⊢
   split
   ·split<;>exact .inr rfl
   ·exact this
theorem fb {H:At T} {st:Ag T} {ops:Array Oper} {o:Oper} {key:List GL} {d:Nat} (hw:AB H st) (h:nW ops o st=some (key,d)): ∃ j want,o.guard=some (j,want)∧o.dst=some d∧GD st.toSt ops j want=some (AV key)∧Ei H st.nx key:=by
 unfold nW at h
 split at h
 ·rename_i j want d' hg hd
  split at h
  ·rename_i key' hk
   simp only [Option.some.injEq,Prod.mk.injEq]at h
   obtain⟨rfl,rfl⟩:=h
   obtain⟨a,b,_⟩:=Kb hw hk
   exact⟨j,want,hg,hd,a,b⟩
  ·cases h
 ·cases h
theorem a7 (hrec:XY P I rec) (il:Hl): ∀ (l:List Oper) (k:Nat) (st:Ag T) (H:At T),AB H st→ ∀ (R:Type) (K:Ag T→Option R) (r:R),RY Γ rec ops il l k st R K=some r→
 ∀ PK:St→Prop,(∀ H' st',Nx H st H' st'→st'.pre=st.pre→K st'=some r→PK st'.toSt)→NN P I ops l st.toSt PK
 | [],k,st,H,hw,R,K,r,hr,PK,hK=>by
   simp only [RY]at hr
   obtain⟨s,⟨⟨H1,n1⟩,p1,w1⟩,hr⟩:=E8 k il hw R _ r hr
   exact⟨s.toSt,w1,hK H1 s n1 p1 hr⟩
 | o::rest,k,st0,H,hw,R,K,r,hr,PK,hK=>by
   simp only [RY]at hr
   obtain⟨st,⟨⟨H0,n0⟩,p0,w0⟩,hr⟩:=E8 k il hw R _ r hr
   refine⟨st.toSt,w0,?_⟩
   replace hK: ∀ H' st',Nx H0 st H' st'→st'.pre=st.pre→K st'=some r→PK st'.toSt:=fun H' s n p q=>hK H' s (n0.trans n) (p.trans p0) q
   replace hw:=n0.ok
   have nxt: ∀ (H1:At T) (st':Ag T),Nx H0 st H1 st'→st'.pre=st.pre→RY Γ rec ops il rest (k+1) st' R K=some r→NN P I ops rest st'.toSt PK:=fun H1 st' n1 p1 q=>
    a7 hrec il rest (k+1) st' H1 n1.ok R K r q PK fun H' s n p q=>hK H' s (n1.trans n) (p.trans p1) q
   split at hr
   ·obtain⟨st',⟨⟨H1,n1⟩,p1,w1⟩,hr⟩:=VW hw o R _ r hr
    exact w1 _ (nxt H1 st' n1 p1 hr)
   ·rename_i sp _
    obtain⟨st',⟨⟨H1,n1⟩,p1,w1⟩,hr⟩:=a6 hw o sp R _ r hr
    exact w1 _ (nxt H1 st' n1 p1 hr)
   ·rename_i h _
    obtain⟨g1,g2⟩:=MJ (PK:=fun s=>NN P I ops rest s PK) hrec hw hr fun H' s n p q=>nxt H' s n p q
    simp only [Uh,g1]
    exact .inl g2
   ·rename_i sh h _
    unfold jn at hr
    obtain⟨g1,g2⟩:=MJ (PK:=fun s=> ∃ s',Wk s s'∧NN P I ops rest s' PK) hrec hw hr fun H' s n p q=>by
     split at q
     ·rename_i v hg
      dsimp only at q
      split at q
      ·rename_i s' hi
       obtain⟨H2,n2⟩:=Gq.inst_nx hw (DF sh.ts v) hi
       have hp:s'.pre=st.pre:=by
        unfold Gq.inst at hi
        split at hi
        ·rename_i s1 us h1
         split at hi
         ·rename_i s2 us2 h2
          injection hi with hi;subst hi
          obtain⟨⟨Ha,na⟩,nb,_,_,np,_⟩:=H5 (sh.base_nx hw) (DF sh.ts v) h1
          obtain⟨_,_,_,mp,_⟩:=Jh na nb h2
          rw [mp,np];rfl
         ·cases hi
        ·cases hi
       exact⟨s'.toSt,Gq.gen_ok hw n hg hi,nxt H2 s' n2 hp q⟩
      ·cases q
     ·cases q
    simp only [Uh,g1]
    refine .inl ?_
    intro F a w G Q hI hR
    refine Oper.wp_mono (fun _ _ ⟨_,G',⟨s',hwk,hp⟩,hR'⟩=>?_) (g2 F a w G Q hI hR)
    obtain⟨G'',q⟩:=hwk _ _ _ _ hR'
    exact⟨s',G'',hp,q⟩
   ·rename_i ks ke kd h _
    split at hr
    ·rename_i key d hfk hdg
     unfold jn at hr
     dsimp only at hr
     obtain⟨j,want,e1,e2,e3,e4⟩:=fb hw hdg
     have main: ∀ x:KA T.den kd,RY Γ rec ops il rest (k+1) (((jF ks ke).base st).put (some d) (.g key (.c (.k kd x)))) R K=some r→NN P I ops rest (((jF ks ke).base st).put (some d) (.g key (.c (.k kd x)))).toSt PK:=fun x q=>by
      have nb:=Gq.base_nx (jF ks ke) hw
      obtain⟨H2,n2⟩:=HB (st:=(jF ks ke).base st) nb.ok e4 (some d) (v:= .c (.k kd x)) (fun _=>by simp only [DV.ok,DC.ok])
      exact nxt H2 _ (nb.trans n2) (by rw [AL];rfl) q
     simp only [Uh,e1,e3]
     refine .inl ⟨fun hc=> .inl ?_,fun hc=>?_⟩
     ·rw [if_pos hc]at hr
      obtain⟨⟨Hu,nu⟩,_,hu⟩:=Jt (l:=eZ o) hc hw e4
      obtain⟨_,g2⟩:=MJ (PK:=fun s=> ∃ s',Wk s s'∧NN P I ops rest s' PK) hrec nu.ok hr fun H' b n' _ q=>by
       have n:=nu.trans n'
       split at q
       ·rename_i v0 x hg hx
        refine⟨_,?_,main x q⟩
        have hwk:=Gq.gen_ok hw n hg (s1:=(jF ks ke).base st) rfl
        intro F a w G hR
        obtain⟨G',q'⟩:=hwk F a w G hR
        refine⟨G',?_⟩
        rw [Ag.put_toSt]
        refine q'.reslot ?_
        have hsl:Ab w G (b.toSt.get d) (a.tmps.getD d Go.undef):=hR.slots d
        rw [b.get_toSt d,aM hx]at hsl
        have hf:(Bd T.enc kd x).flat =true:=by cases kd<;>first | rfl | cases hfk
        simp only [DV.toV,DC.toC,Ab]at hsl ⊢
        rw [if_pos hc]
        exact(AE hf).2 ((AE hf).1 hsl)
       ·cases q
      intro F a w G Q hI hR
      have g3:o.wp P a w (ah F fun s=> ∃ s',Wk s s'∧NN P I ops rest s' PK) Q:=g2 F a w G Q hI (hu F a w G hR)
      exact Oper.wp_mono (fun _ _ ⟨s,G',⟨s',hwk,hp⟩,hR'⟩=>⟨s,G',iI hwk hp,hR'⟩) g3
     ·rw [if_neg (by rw [hc];simp)]at hr
      rw [hc,e2]
      refine⟨.c (Bd T.enc kd (aL T kd)),_,fa (cQ (jF ks ke) hw) (some d) (.g false (.c (Bd T.enc kd (aL T kd)))),?_⟩
      have:=main _ hr
      rw [Ag.put_toSt]at this
      simp only [DV.toV,DC.toC,hc]at this
      exact this
    ·cases hr
end
end Go.PL
namespace Go.PL
open Go Go.RowKit
variable {T:Be}
def nc:DV T→Bool
 | .c (.k k _)=>KD k
 | .c (.c (.osl _))=>true
 | _=>false
theorem k8 {v:DV T} (h:nc v=true) {w:World} {G:Ay} {a b:Value} (ha:Ab w G v.toV a) (hb:Ab w G v.toV b):a=b:=by
 unfold nc at h
 split at h
 ·rename_i k x
  have hf:(Bd T.enc k x).flat =true:=by cases k<;>first | rfl | cases h
  simp only [DV.toV,DC.toC,Ab]at ha hb
  rw [AE hf]at ha hb
  rw [ha,hb]
 ·simp only [DV.toV,DC.toC,Ab,Ad]at ha hb
  have:=ha.1.symm.trans hb.1
  simpa using this
 ·cases h
structure KW where
 i:Nat
 d:Nat
 x:Operand
 id:Ah
 off:Nat
 ag:Bool
 n:Nat
 te:Nat
 ts:Nat
def Pq (P:Program) (ops:Array Oper) (lz:List Nat) (H:At T) (nx:Nat) (q:KW):Prop:=
 ∃ o t cs,ops[q.i]? =some o∧o.op= .load t q.x∧o.dst=some q.d∧Ir P t=some (q.ag,q.n)∧q.te<nx∧q.ts<nx∧(H.e q.te).id =q.id∧(H.e q.te).x = .box cs∧
   Et q.ag q.off q.n cs.length=true∧H.v q.ts=Cp q.ag q.off q.n cs∧(nc (H.v q.ts)=true∨q.i∈lz)
theorem Pq.nx {P:Program} {ops:Array Oper} {lz:List Nat} {H H':At T} {st st':Ag T} {q:KW} (h:Pq P ops lz H st.nx q) (hn:Nx H st H' st'):Pq P ops lz H' st'.nx q:=by
 obtain⟨o,t,cs,h1,h2,h3,h4,h5,h6,h7,h8,h9,h10,h11⟩:=h
 have e1:=(hn.ext q.te h5).2
 have e2:=(hn.ext q.ts h6).1
 exact⟨o,t,cs,h1,h2,h3,h4,Nat.lt_of_lt_of_le h5 hn.le,Nat.lt_of_lt_of_le h6 hn.le,by rw [e1];exact h7,by rw [e1];exact h8,h9,by rw [e2];exact h10,by rw [e2];exact h11⟩
def cR (st:Ag T) (q:KW):Bool:=match st.ev q.x,Fl st.so q.id,HW st q.id with
 | .c (.c (.ptr id off)),some e,some _=>A1 id q.id&&(Nat.beq off q.off&&(Nat.beq e.tag q.te&&(Nat.beq (QS st.tm q.d) (q.ts+1)&&Nat.blt q.d st.m)))
 | _,_,_=>false
theorem O9 {st:Ag T} {id:Ah} {cs:List (DC T)} (h:HW st id=some cs): ∃ e,Fl st.so id=some e∧e.x= .box cs:=by
 unfold HW at h
 split at h
 ·rename_i cs' hl
  injection h with h;subst h
  unfold Ag.look at hl
  split at hl
  ·cases hl
  ·split at hl
   ·rename_i e he
    split at hl
    ·cases hl
    ·injection hl with hl
     exact⟨e,he,hl⟩
   ·cases hl
 ·cases h
section
variable {H:At T} {P:Program} {st:Ag T}
theorem U7 {t:TypeId} {ag:Bool} {n:Nat} {id:Ah} {off:Nat} {cs:List (DC T)} (hw:AB H st) (ht:Ir P t=some (ag,n)) (hb:HW st id=some cs) (ho:Et ag off n cs.length=true):
 (Cp ag off n cs).ok H st.nx∧(C9 P t st.toSt (.c (.ptr id off))).1∧(C9 P t st.toSt (.c (.ptr id off))).2=(Cp (T:=T) ag off n cs).toV :=by
 have hd:=Q5 (P:=P) (t:=t) (key:=[]) (v:=(.c (.c (.ptr id off)):DV T)) hw (fun _=>by simp only [DV.ok,DC.ok]) (DV T) some (Cp ag off n cs) (by simp only [Xo,ht,hb,ho];rfl)
 obtain⟨v,h1,h2⟩:=hd
 injection h2 with h2;subst h2
 have:=h1 rfl
 simpa only [DV.toV,DC.toC] using this
theorem Qb (hw:AB H st) {ops:Array Oper} {lz:List Nat} {q:KW} (hq:Pq P ops lz H st.nx q) (h:cR st q=true) {o:Oper} (ho:ops[q.i]? =some o) {F:Fr} {a:Act} {w:World} {G:Ay} (hR:R F st.toSt a w G):
 o.dst=some q.d∧ ∃ v,(q.i∈lz∨v=a.tmps.getD q.d Go.undef)∧Ab w G (st.toSt.tm.getD q.d .undef) v∧ ∀ w',Cv w w'→(execOp a.eval o).run P w'= .ok (.value v) w':=by
 obtain⟨o',t,cs,h1,h2,h3,h4,h5,h6,h7,h8,h9,h10,h11⟩:=hq
 rw [h1]at ho;injection ho with ho;subst ho
 unfold cR at h
 split at h
 ·rename_i id off e cs' hev hlk hbx
  simp only [Bool.and_eq_true,Nat.beq_eq,Az,Nat.blt_eq]at h
  obtain⟨k1,k2,k3,k4,k5⟩:=h
  subst k1 k2
  obtain⟨e',l1,l2⟩:=O9 hbx
  rw [hlk]at l1;injection l1 with l1;subst l1
  have hm:=(Cq hlk).1
  have he:=(hw.so e hm).2.1
  rw [k3]at he
  rw [he,l2]at h8
  injection h8 with h8;subst h8
  obtain⟨m1,m2,m3⟩:=U7 hw h4 hbx h9
  have hev':=st.ev_toSt q.x
  rw [hev]at hev'
  have harg:st.toSt.arg true q.x=(True, .c (.ptr q.id q.off)):=by
   unfold St.arg
   rw [hev']
   simp only [DV.toV,DC.toC]
  have hs:(De P st.toSt true o'.op).1:=by
   rw [h2]
   show (rd P st.toSt true (.load t q.x)).1
   simp only [rd,bnd,harg]
   exact⟨trivial,m2⟩
  obtain⟨v,q1,q2⟩:=EI hR rfl hs
  have e2:(De P st.toSt true o'.op).2=(Cp (T:=T) q.ag q.off q.n cs').toV :=by
   rw [h2]
   show (rd P st.toSt true (.load t q.x)).2=_
   simp only [rd,bnd,harg]
   exact m3
  rw [e2]at q1
  obtain⟨_,hv⟩:=QT hw.tm k4
  have hget:st.get q.d=Cp q.ag q.off q.n cs':=by
   unfold Ag.get
   rw [show Nat.blt q.d st.m=true by simpa using k5]
   simp only
   rw [←hv,h10]
  have hsl:=hR.slots q.d
  have hg:st.toSt.tm.getD q.d .undef =(st.get q.d).toV :=st.get_toSt q.d
  rw [hg,hget]at hsl ⊢
  refine⟨h3,v,?_,q1,q2⟩
  rcases h11 with h11 | h11
  ·exact .inr (k8 (by rw [←h10];exact h11) q1 hsl)
  ·exact .inl h11
 ·cases h
theorem fc (hw:AB H st) {ops:Array Oper} {lz:List Nat} {q:KW} (hq:Pq P ops lz H st.nx q) (h:cR st q=true) {o:Oper} (ho:ops[q.i]? =some o) (hc:C4 o=1) {F:Fr} {a:Act} {w:World} {G:Ay} (hR:R F st.toSt a w G):ct P (q.i∈lz) o a w:=by
 obtain⟨h1,v,h2,h3,h4⟩:=Qb hw hq h ho hR
 intro d hd
 rw [h1]at hd;injection hd with hd;subst hd
 exact⟨v,h2,fun w' hw'=>h4 w' (hw'.resolve_left (by rw [hc];omega))⟩
theorem fe {I:World→Prop} (hw:AB H st) {o:Oper} (hk:B2 o.op= .rd) {v:DV T} (hv:Rd H P st [] o.op v):kG P I o st.toSt (st.put o.dst v).toSt :=fun F a w G hI hR=>by
 obtain⟨h1,h2,h3⟩:=hv rfl
 obtain⟨u,q1,q2⟩:=EI hR rfl h2
 change Ab w G (De P st.toSt true o.op).2 u at q1
 rw [show (De P st.toSt true o.op).2=v.toV from h3]at q1
 exact⟨u,G,q2,by rw [Ag.put_toSt];exact hR.put q1⟩
end
def k9 (P:Program) (z:Bool) (o:Oper) (i:Nat) (st:Ag T):Option (Ag T×KW):=match o.op,o.dst with
 | .load t x,some d=>match Ir P t,st.ev x with
   | some (ag,n), .c (.c (.ptr id off))=>match HW st id,Fl st.so id with
     | some cs,some e=>match Et ag off n cs.length&&(nc (Cp ag off n cs)||z)with
       | true=>some (st.put (some d) (Cp ag off n cs),⟨i,d,x,id,off,ag,n,e.tag,st.nx⟩)
       | false=>none
     | _,_=>none
   | _,_=>none
 | _,_=>none
theorem iJ {H:At T} {P:Program} {I:World→Prop} {st st':Ag T} (hw:AB H st) {ops:Array Oper} {lz:List Nat} {z:Bool} {o:Oper} {i:Nat} {q:KW} (hz:z=true→i∈lz) (hi:ops[i]? =some o) (h:k9 P z o i st=some (st',q)):
 ∃ H',Nx H st H' st'∧st'.pre=st.pre∧kG P I o st.toSt st'.toSt∧Pq P ops lz H' st'.nx q∧q.i=i:=by
 unfold k9 at h
 split at h
 ·rename_i t x d hop hd
  split at h
  ·rename_i ag n id off ht hev
   split at h
   ·rename_i cs e hbx hlk
    split at h
    ·rename_i hb
     simp only [Bool.and_eq_true,Bool.or_eq_true]at hb
     injection h with h
     injection h with h1 h2
     subst h1 h2
     obtain⟨m1,m2,m3⟩:=U7 hw ht hbx hb.1
     have he:=Cw.setV H st.nx (Cp (T:=T) ag off n cs)
     obtain⟨e',l1,l2⟩:=O9 hbx
     rw [hlk]at l1;injection l1 with l1;subst l1
     obtain⟨k1,k2,k3⟩:=hw.so e (Cq hlk).1
     have hnx:Nx H st (H.setV st.nx (Cp ag off n cs)) (st.put (some d) (Cp ag off n cs)):=by
      obtain⟨H',hn⟩:=Ag.put_nx hw (some d) m1
      refine⟨he,by simp [Ag.put],?_,?_,?_,hw.nd⟩
      ·intro s t' w' hm
       simp only [Ag.put,List.mem_cons,Prod.mk.injEq]at hm ⊢
       rcases hm with ⟨rfl,rfl,rfl⟩ | hm
       ·exact⟨Nat.lt_succ_self _,by simp [At.setV],DV.ok_ext he (Nat.le_succ _) m1⟩
       ·exact BB he (Nat.le_succ _) hw.tm s t' w' hm
      ·exact fun f hf=>BB he (Nat.le_succ _) (hw.gh f hf)
      ·exact Dv he (Nat.le_succ _) hw.so
     refine⟨_,hnx,AL _ _ _,?_,⟨o,t,cs,hi,hop,hd,ht,Nat.lt_of_lt_of_le k1 hnx.le,by simp [Ag.put],?_,?_,hb.1,by simp [At.setV],?_⟩,rfl⟩
     ·have hrd:Rd H P st [] o.op (Cp ag off n cs):=fun _=>by
       have hev':=st.ev_toSt x
       rw [hev]at hev'
       have harg:st.toSt.arg (AV []) x=(True, .c (.ptr id off)):=by
        unfold St.arg
        rw [hev']
        simp only [DV.toV,DC.toC]
       rw [hop]
       refine⟨m1,?_,?_⟩
       ·show (rd P st.toSt (AV []) (.load t x)).1
        simp only [rd,bnd,harg]
        exact⟨trivial,m2⟩
       ·show (rd P st.toSt (AV []) (.load t x)).2=_
        simp only [rd,bnd,harg]
        exact m3
      have:=fe (I:=I) hw (by rw [hop];rfl) hrd
      rw [hd]at this
      exact this
     ·rw [(hnx.ext e.tag k1).2,k2];exact(Cq hlk).2.1
     ·rw [(hnx.ext e.tag k1).2,k2];exact l2
     ·rcases hb.2 with q | q
      ·left;simp [At.setV];exact q
      ·exact .inr (hz q)
    ·cases h
   ·cases h
  ·cases h
 ·cases h
end Go.PL
set_option linter.all false
namespace Go.PL
open Go Go.RowKit
def Fr.give (F:Fr) (b:Nat):Fr:=⟨F.w0,fun x=>F.av x∧x ≠ b,fun x=>F.old x∨x=b,F.I,F.gv⟩
def ff (F:Fr) (old:Nat→Prop):Prop:= ∀ w':World,F.w0.heap.size≤w'.heap.size→(∀ x,x<F.w0.heap.size→ ¬old x→w'.heap[x]? =F.w0.heap[x]?)→F.I w'
section
variable {F:Fr} {st:St} {a:Act} {w:World} {G:Ay}
theorem R.unnamed (h:R F st a w G) {b:Nat} (hav:F.av b) (j:Ah):G.blk j ≠ some b:=fun q=>by
 rcases h.new j b q with k | k
 ·have:=h.avlt b hav;omega
 ·exact h.avold b k hav
theorem R.setA (h:R F st a w G) {b:Nat} (hav:F.av b) (hinv:ff F (fun x=>F.old x∨x=b)) (e:As) (nv:Option Value) (hp:e.pu=true→Ao e.cs=true)
 (he:AX w (BS (F.give b) G e.id (some b) nv) (e.kill e.id)):R (F.give b) (st.new e) a w (BS (F.give b) G e.id (some b) nv):=by
 have hun:=h.unnamed hav
 have hwr:G.wr b:=(h.wr b).2 (.inl hav)
 have hbw:b<w.heap.size:=Nat.lt_of_lt_of_le (h.avlt b hav) h.hsize
 have hk:B3 G (BS (F.give b) G e.id (some b) nv) w w:=by
  refine⟨Nat.le_refl _,fun _ _ _=>rfl,fun x hx hw=>?_,fun _ _ _ _=>BX.same rfl⟩
  simp only [BS,Fr.give]at hw
  rcases hw with hw | ⟨i,hi⟩
  ·exact(h.wr x).2 (.inl hw.1)
  ·split at hi
   ·injection hi with hi;rw [←hi];exact hwr
   ·exact(h.wr x).2 (.inr ⟨i,hi⟩)
 refine {
  dfr:=h.dfr
  size:=by simp [St.new,St.kill,h.size]
  slots:=fun i=>?_
  ghosts:=?_
  store:=fun e' he'=>?_
  deep:=fun e' he'=>?_
  pures:=fun e' he'=>?_
  nodup:=?_
  inj:=fun i j x hi hj=>?_
  lt:=fun i x hi=>?_
  new:=fun i x hi=>?_
  wr:=fun _=>Iff.rfl
  avlt:=fun x hx=>h.avlt x hx.1
  inv:=hinv
  avold:=fun x hx hy=>?_
  os:=h.os,tape:=h.tape,output:=h.output,hsize:=h.hsize
  ext:=fun x hx ho=>h.ext x hx fun q=>ho (.inl q)}
 ·simp only [St.new,St.kill]
  rw [EE (by simp [D5,V.men])]
  exact Ab.mono hk _ _ (CP (F:=F.give b) (fun i hi he'=>by subst he';rw [Nb]at hi;cases hi)) (Nf (h.slots i))
 ·simp only [St.new,St.kill]
  exact Ap.mono hk _ _ (CP (F:=F.give b) (fun i hi he'=>by subst he';rw [Lo]at hi;cases hi)) (Ln h.ghosts)
 ·simp only [St.new,St.kill]at he'
  rcases GN he' with ⟨rfl,_⟩ | he'
  ·exact he
  ·simp only [List.mem_map,List.mem_filter,Bool.and_eq_true]at he'
   obtain⟨d,⟨hd,hne,_⟩,rfl⟩:=he'
   have hne':d.id ≠ e.id:=by simpa using hne
   exact Cj hk (CP (F:=F.give b) (fun i hi he'=>by subst he';rw [WK (h.pures d hd)]at hi;cases hi)) (by simp [BS,As.kill_id,hne']) (fun _ _=>rfl) (Uc (h.store d hd))
 ·simp only [St.new,St.kill]at he'
  rcases GN he' with ⟨rfl,h1,h2⟩ | he'
  ·exact Bi.triv h1 h2
  ·simp only [List.mem_map,List.mem_filter,Bool.and_eq_true]at he'
   obtain⟨d,⟨hd,hne,hmd⟩,rfl⟩:=he'
   have hne':d.id ≠ e.id:=by simpa using hne
   have hmk:Ed (d.kill e.id).id =true→ ∀ k,BH k (d.kill e.id).id ≠ e.id:=by
    intro hq k hk2
    rw [As.kill_id]at hq hk2
    rw [←hk2,WF,hq]at hmd
    cases hmd
   exact Bi.mono hk (by simp [BS,As.kill_id,hne']) (fun hq k=>by simp [BS,hmk hq k]) (fun _ _=>rfl) (fun _ _ _ _=>rfl) (h.deep d hd).kill
 ·simp only [St.new,St.kill]at he'
  rcases GN he' with ⟨rfl,_⟩ | he'
  ·exact Kt hp
  ·simp only [List.mem_map,List.mem_filter]at he'
   obtain⟨d,⟨hd,hne⟩,rfl⟩:=he'
   exact Kt (h.pures d hd)
 ·have hsub:List.Sublist (((st.new e).so.map (·.id))) (e.id::((st.so.filter (fun d=>d.id != e.id&& !(CJ e.id&&Ed d.id))).map (·.id))):=by
   simp only [St.new,St.kill,Og]
   split
   ·simp only [List.map_map,Function.comp_def,As.kill_id]
    exact List.Sublist.cons _ (List.Sublist.refl _)
   ·simp only [List.map_cons,List.map_map,Function.comp_def,As.kill_id]
    exact List.Sublist.refl _
  refine List.Sublist.nodup hsub (List.nodup_cons.2 ⟨by simp;exact fun x _ h _=>h,?_⟩)
  exact List.Sublist.nodup (List.Sublist.map (fun d:As=>d.id) List.filter_sublist) h.nodup
 ·simp only [BS]at hi hj
  split at hi<;>split at hj
  ·simp_all
  ·injection hi with hi;subst hi;exact absurd hj (hun j)
  ·injection hj with hj;subst hj;exact absurd hi (hun i)
  ·exact h.inj i j x hi hj
 ·simp only [BS]at hi
  split at hi
  ·injection hi with hi;omega
  ·exact h.lt i x hi
 ·simp only [BS]at hi
  split at hi
  ·injection hi with hi;exact .inr (.inr hi.symm)
  ·exact(h.new i x hi).imp (fun q=>q) .inl
 ·rcases hx with q | q
  ·exact h.avold x q hy.1
  ·exact hy.2 q
def Fr.take (F:Fr) (w1:World) (b:Nat) (G:Ay):Fr:=⟨w1,fun x=>F.av x∨x=b,fun x=> ∃ i,G.blk i=some x,F.I,F.gv⟩
theorem R.taken (h:R F st a w G) {w1:World} (ho:JR w w1) (hs:Cv w w1) {b:Nat} (hb:b=w.heap.size) (hlt:b<w1.heap.size) (hinv:ff (F.take w1 b G) (F.take w1 b G).old) {d:Nat} {v:Value} (hd:st.get d= .undef):
 ∃ G1,R (F.take w1 b G) st (a.put (some d) v) w1 G1:=by
 have hk:B3 G (⟨G.blk,G.own,fun x=>(F.av x∨x=b)∨ ∃ i,G.blk i=some x⟩:Ay) w w1:=by
  refine⟨hs.size,fun x hx _=>hs.block x hx,fun x hx hw=>?_,fun i x h1 _=>BX.same (hs.block x (h.lt i x h1))⟩
  rcases hw with (hw | hw) | hw
  ·exact(h.wr x).2 (.inl hw)
  ·omega
  ·exact(h.wr x).2 (.inr hw)
 have ag: ∀ S:Ah→Prop,HK S G (⟨G.blk,G.own,fun x=>(F.av x∨x=b)∨ ∃ i,G.blk i=some x⟩:Ay):=fun _ _ _=>⟨rfl,rfl⟩
 refine⟨⟨G.blk,G.own,fun x=>(F.av x∨x=b)∨ ∃ i,G.blk i=some x⟩,{
  dfr:=h.dfr
  size:=by simp [Act.put,h.size]
  slots:=fun i=>?_
  ghosts:=Ap.mono hk _ _ (ag _) h.ghosts
  store:=fun e he=>Cj hk (ag _) ⟨rfl,rfl⟩ (fun x hx=>hs.block x (h.lt _ x hx)) (h.store e he)
  deep:=fun e he=>Bi.mono hk ⟨rfl,rfl⟩ (fun _ _=>⟨rfl,rfl⟩) (fun x hx=>hs.block x (h.lt _ x hx)) (fun _ _ x hx=>hs.block x (h.lt _ x hx)) (h.deep e he)
  pures:=h.pures,nodup:=h.nodup,inj:=h.inj
  lt:=fun i x hi=>Nat.lt_of_lt_of_le (h.lt i x hi) hs.size
  new:=fun i x hi=> .inr ⟨i,hi⟩
  wr:=fun _=>Iff.rfl
  avlt:=fun x hx=>?_
  inv:=hinv
  avold:=fun x ⟨i,hi⟩ hx=>?_
  os:=rfl,tape:=rfl,output:=rfl,hsize:=Nat.le_refl _
  ext:=fun _ _ _=>rfl}⟩
 ·by_cases hi:d=i
  ·subst hi
   have:st.tm.getD d .undef = .undef :=hd
   rw [this];simp only [Ab]
  ·have e:(a.put (some d) v).tmps.getD i Go.undef=a.tmps.getD i Go.undef:=by simp [Act.put,Array.getD_eq_getD_getElem?,Array.getElem?_setIfInBounds_ne hi]
   rw [e]
   exact Ab.mono hk _ _ (ag _) (h.slots i)
 ·rcases hx with hx | hx
  ·exact Nat.lt_of_lt_of_le (h.avlt x hx) (Nat.le_trans h.hsize hs.size)
  ·show x<w1.heap.size;omega
 ·rcases hx with hx | hx
  ·exact h.unnamed hx i hi
  ·have:=h.lt i x hi;omega
end
structure H7 (F0 F:Fr) (D:List (Nat×Nat)):Prop where
 inv0:F.I=F0.I
 gv:F.gv=F0.gv
 av: ∀ x,F.av x↔F0.av x∨ ∃ i,(i,x)∈D
 size:F0.w0.heap.size≤F.w0.heap.size
 kept: ∀ x,x<F0.w0.heap.size→ ¬F0.old x→ ¬F.old x∧F.w0.heap[x]? =F0.w0.heap[x]?
 old: ∀ x,F.old x→F0.w0.heap.size≤x∨F0.old x
 new: ∀ p∈D,F0.w0.heap.size≤p.2
 os:F.w0.os=F0.w0.os
 tape:F.w0.tape=F0.w0.tape
 output:F.w0.output=F0.w0.output
theorem H7.start (F:Fr):H7 F F []:=⟨rfl,rfl,fun x=>by simp,Nat.le_refl _,fun x _ h=>⟨h,rfl⟩,fun _ h=> .inr h,fun _ h=>(by cases h),rfl,rfl,rfl⟩
def fg (F:Fr):Prop:=ff F F.old
section
variable {F0 F:Fr} {D:List (Nat×Nat)} {st:St} {a:Act} {w:World} {G:Ay}
theorem H7.back (t:H7 F0 F []) (hi:fg F0) (hd: ∀ x,F0.old x→ ¬F0.av x) (hl: ∀ x,F0.av x→x<F0.w0.heap.size) (h:R F st a w G):R F0 st a w G where
 dfr:=h.dfr
 size:=h.size
 slots:=h.slots
 ghosts:=by rw [←t.gv];exact h.ghosts
 store:=h.store
 deep:=h.deep
 pures:=h.pures
 nodup:=h.nodup
 inj:=h.inj
 lt:=h.lt
 new:=fun i x hx=>by
  rcases h.new i x hx with q | q
  ·exact .inl (Nat.le_trans t.size q)
  ·exact t.old x q
 wr:=fun x=>by rw [h.wr,t.av];simp
 avlt:=hl
 inv:=hi
 avold:=hd
 os:=h.os.trans t.os
 tape:=h.tape.trans t.tape
 output:=h.output.trans t.output
 hsize:=Nat.le_trans t.size h.hsize
 ext:=fun x hx ho=>by
  obtain⟨k1,k2⟩:=t.kept x hx ho
  exact(h.ext x (Nat.lt_of_lt_of_le hx t.size) k1).trans k2
theorem H7.invW (t:H7 F0 F D) (hi:fg F0) {old:Nat→Prop} (ho: ∀ x,x<F0.w0.heap.size→ ¬F0.old x→ ¬old x):ff F old:=fun w' hs hw=>by
 rw [t.inv0]
 exact hi w' (Nat.le_trans t.size hs) fun x hx hx2=>(hw x (Nat.lt_of_lt_of_le hx t.size) (ho x hx hx2)).trans (t.kept x hx hx2).2
end
end Go.PL
set_option linter.all false
namespace Go.PL
open Go Go.RowKit
variable {T:Be}
def We:C→Bool
 | .int .. =>true
 | .bool _=>true
 | .str _=>true
 | .nilp =>true
 | .niface =>true
 | .nils =>true
 | .fn _=>true
 | .sl 0 []=>true
 | _=>false
theorem fh {c:C} (h:We c=true) {w w':World} {G G':Ay} {v:Value} (hr:Ad w G c v):Ad w' G' c v:=by
 unfold We at h
 split at h
 all_goals first
  | (cases h;done)
  | (simp only [Ad]at hr ⊢;exact hr;done)
  | (simp only [Ad]at hr ⊢;obtain⟨h1,p,cap,h2,h3,h4,h5,_⟩:=hr;exact⟨h1,p,cap,h2,h3,h4,h5, .inl trivial⟩)
theorem XZ {w w':World} {G G':Ay}: ∀ {cs:List C} {vs:List Value},cs.all We=true→Ai w G cs vs→Ai w' G' cs vs
 | [],[],_,_=>by simp [Ai]
 | [],_::_,_,h=>by simp [Ai]at h
 | _::_,[],_,h=>by simp [Ai]at h
 | c::cs,v::vs,h,hr=>by
   simp only [List.all_cons,Bool.and_eq_true]at h
   simp only [Ai]at hr ⊢
   exact⟨fh h.1 hr.1,XZ h.2 hr.2⟩
theorem fi {c:C} (h:We c=true) (i:Ah):c.men i=false:=by
 unfold We at h
 split at h
 all_goals first
  | rfl
  | (cases h;done)
theorem X0: ∀ {cs:List C},cs.all We=true→ ∀ i,BE i cs=false
 | [],_,_=>rfl
 | c::cs,h,i=>by
   simp only [List.all_cons,Bool.and_eq_true]at h
   simp only [BE,fi h.1,X0 h.2,Bool.or_self]
def dn (o:Oper):Bool:=match o.guard,o.dst,o.op with
 | none,some _, .alloc _=>true
 | none,some _, .buildSlice _ _ ps=>ps.toList.all fun p=>Bt p.2
 | _,_,_=>false
def NO:DX T→List C
 | .box cs=>Aq cs
 | .row E l=>l.flatMap (T.enc E)
 | .deep .. =>[]
def Wf:DX T→Nat→Value
 | .row _ l,b=> .slice (some ⟨b,0,none⟩) l.length l.length
 | _,b=> .pointer (some ⟨b,0,none⟩)
def RZ:DX T→Ah→C
 | .row ..,id=> .osl id
 | _,id=> .ptr id 0
def fj (P:Program) (st:Ag T) (o:Oper):Option (DX T):=match o.op with
 | .alloc t=>match Q8 P t with
   | some cs=>match (Aq cs).all We with
     | true=>some (.box cs)
     | false=>none
   | none=>none
 | .buildSlice t len ps=>match D8 P t,Hq st [] ps.toList with
   | some (E,n,_),some vs=>match LD P E with
     | some z=>match OO (fun i=>some (i*n,n)) ((List.replicate len z).flatMap id) (vs.map fun x=>(x.1,J7 x.2))with
       | some cs=>match Ij E len cs with
         | some l=>match (Nat.beq n (T.sz E)&&(Nat.beq z.length n&&(Nat.blt 0 n&&(Nat.ble (len*n) (2 ^ 24)&&Nat.beq cs.length (len*n)))))&&(Aq cs).all We with
           | true=>some (.row E l)
           | false=>none
         | none=>none
       | none=>none
     | none=>none
   | _,_=>none
 | _=>none
theorem MK {st st':Ag T}: ∀ {ps:List (Nat×Operand)},(ps.all fun p=>Bt p.2)=true→Hq st [] ps=Hq st' [] ps
 | [],_=>rfl
 | (i,x)::r,h=>by
   simp only [List.all_cons,Bool.and_eq_true]at h
   have ih:=MK (st:=st) (st':=st') h.2
   have hx:st.arg [] x=st'.arg [] x:=by
    cases x with
    | const v=>rfl
    | _=>cases h.1
   simp only [Hq,ih,hx]
theorem NP {P:Program} {st st':Ag T} {o:Oper} (h:dn o=true):fj P st o=fj P st' o:=by
 unfold dn at h
 split at h
 ·rename_i ho;simp only [fj,ho]
 ·rename_i ho;simp only [fj,ho,MK (st:=st) (st':=st') h]
 ·cases h
structure la (x:DX T) (arr:Array Value) (Tt:TypeId):Prop where
 ind:(NO x).all We=true
 rel: ∀ w G,Ai w G (NO x) arr.toList
 row: ∀ E l,x= .row E l→Tt=E∧arr.size=l.length*T.sz E∧l.length≤maxLen
 nd: ∀ E n l h,x ≠ .deep E n l h
 ok:x.ok
theorem iK {P:Program} {H:At T} {st:Ag T} {o:Oper} {x:DX T} (hw:AB H st) (h:fj P st o=some x) {F:Fr} {a:Act} {w:World} {G:Ay} (hR:R F st.toSt a w G):
 ∃ arr Tt,(execOp a.eval o).run P w= .ok (.value (Wf x w.heap.size)) (w.alloc (.cells arr Tt))∧la x arr Tt:=by
 unfold fj at h
 split at h
 ·rename_i t hop
  split at h
  ·rename_i cs hz
   split at h
   ·rename_i hi
    injection h with h;subst h
    obtain⟨z1,z2⟩:=J2 hz
    obtain⟨i,z,hi1,hzv,hc⟩:=Lp z1
    refine⟨z.cells,t,?_,hi,fun w G=>HP hc,fun E l q=>(by cases q),fun E n l h q=>(by cases q),z2⟩
    simp [execOp,hop,Instr.alloc,run_zeroValue' hi1 hzv,newVar,newRow,Wf]
   ·cases h
  ·cases h
 ·rename_i t len ps hop
  split at h
  ·rename_i E n by' vs hsel hp
   split at h
   ·rename_i z hz
    split at h
    ·rename_i cs hf
     split at h
     ·rename_i l hl
      split at h
      ·rename_i hg
       injection h with h;subst h
       simp only [Bool.and_eq_true,Nat.beq_eq,Nat.blt_eq,Nat.ble_eq]at hg
       obtain⟨⟨g1,g2,g3,g4,g5⟩,g6⟩:=hg
       subst g1
       obtain⟨p1,p2,p3⟩:=F5 (key:=[]) hw (fun _ hl=>by cases hl) rfl hp
       obtain⟨z1,z2⟩:=F8 hz
       obtain⟨f1,_⟩:=Hr hf
       rw [LF z (by omega),Ro]at f1
       change (st.toSt.parts true ps.toList).1 at p2
       change (st.toSt.parts true ps.toList).2=ey vs at p3
       rw [←p3]at f1
       obtain⟨hlen,r,hr⟩:=Dt hl
       have hrn:r=[]:=by
        have:=congrArg List.length hr
        rw [Ax,g5,List.length_append,Bo (fun y=>AD E y),hlen]at this
        exact List.length_eq_zero_iff.1 (by omega)
       subst hrn
       rw [List.append_nil]at hr
       obtain⟨arr',q1,q2,q3,q4,q5⟩:=G7 hR hsel z1 f1 p2 (by rw [Ax];exact g2) g3 g4
       refine⟨arr',E,?_,by simp only [NO, ←hr];exact g6,fun w' G'=>by simp only [NO, ←hr];exact XZ g6 q2,fun E' l' q=>?_,fun E n l h q=>(by cases q),trivial⟩
       ·simp [execOp,hop,q1,Wf,hlen]
       ·injection q with q1' q2'
        subst q1'
        have:=eq_of_heq q2'
        subst this
        exact⟨rfl,by rw [hlen];exact q4,by rw [hlen];exact q5⟩
      ·cases h
     ·cases h
    ·cases h
   ·cases h
  ·cases h
 ·cases h
theorem cS {H:At T} {st s:Ag T} {x:DX T} {arr:Array Value} {Tt:TypeId} (hw:AB H st) (hx:la x arr Tt) {F:Fr} {a:Act} {w:World} {G:Ay} (hR:R F st.toSt a w G) {b:Nat} (hav:F.av b) (hinv:ff F (fun y=>F.old y∨y=b))
 (hh:w.heap[b]? =some (.cells arr Tt (0,0))) {d:Nat} (hv:a.tmps.getD d Go.undef=Wf x b) (hs:st.new (d::st.pre) x=some s): ∃ G',R (F.give b) (s.put (some d) (.c (.c (RZ x (d::st.pre))))).toSt a w G':=by
 obtain⟨_,hless,_⟩:=Ag.new_spec hw hx.ok hs
 have hrow:(⟨d::st.pre,0,x⟩:DE T).toE.cs =NO x:=by
  unfold DE.toE
  cases x with
  | box cs=>rfl
  | row E l=>rfl
  | deep E n l h=>exact absurd rfl (hx.nd E n l h)
 have hk:((⟨d::st.pre,0,x⟩:DE T).toE.kill (d::st.pre))=(⟨d::st.pre,0,x⟩:DE T).toE :=As.kill_eq (by
  simp only [As.fre,Bool.or_eq_true,Bool.not_eq_true']
  right
  rw [hrow];exact X0 hx.ind _)
 have hr0: ∀ G',Ak w G' (NO x) b 0:=fun G'=>Ak.of_list (hx.rel w G') (By hh (rest:=[]) (by rw [List.append_nil]))
 have key: ∃ nv:Option Value,(∀ G',AX w (BS (F.give b) G' (d::st.pre) (some b) nv) (⟨d::st.pre,0,x⟩:DE T).toE)∧(∀ G',Ad w (BS (F.give b) G' (d::st.pre) (some b) nv) (RZ x (d::st.pre)) (Wf x b)):=by
  cases x with
  | box cs=>
    refine⟨none,fun G'=>WL rfl ⟨b,Tt,arr,by simp [BS,DE.toE],hh,?_,hr0 _⟩,fun G'=>?_⟩
    ·have:(Aq cs).length =arr.toList.length:=(hx.rel w G).length
     show arr.size=(Aq cs).length
     rw [this];simp
    ·simp only [RZ,Wf,Ad];exact⟨b,by simp [BS],rfl⟩
  | row E l=>
    obtain⟨e1,e2,e3⟩:=hx.row E l rfl
    refine⟨some (.slice (some ⟨b,0,none⟩) l.length l.length),fun G'=>GZ rfl ⟨?_,_,by simp [BS,DE.toE], .inr ⟨b,l.length,arr,rfl,by simp [BS,DE.toE],by rw [←e1];exact hh,Nat.le_refl _,e3,e2,hr0 _⟩⟩,fun G'=>?_⟩
    ·show (l.flatMap (T.enc E)).length =_
     rw [Bo (fun y=>AD E y)]
    ·simp only [RZ,Wf,Ad];exact⟨by simp [BS],rfl⟩
  | deep E n l h=>exact absurd rfl (hx.nd E n l h)
 obtain⟨nv,k1,k2⟩:=key
 have hid:(⟨d::st.pre,0,x⟩:DE T).toE.id =d::st.pre:=DE.toE_id _
 have hset:=hR.setA hav hinv (⟨d::st.pre,0,x⟩:DE T).toE nv (fun hp=>by
  cases x with
  | box cs=>cases hp
  | row E l=>exact AF _ (fun y=>by have:=CL (T:=T) (.s E) y;simpa only [DB,V.pure] using this) _
  | deep E n l h=>exact absurd rfl (hx.nd E n l h)) (by rw [hid,hk];exact k1 G)
 rw [hid]at hset
 refine⟨BS (F.give b) G (d::st.pre) (some b) nv,?_⟩
 rw [Ag.put_toSt]
 refine(hset.less hless).reslot ?_
 rw [hv]
 simp only [DV.toV,DC.toC,Ab]
 exact k2 G
end Go.PL
