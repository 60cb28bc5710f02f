/- The pure logic: Tua, Tub, Tuc, Tx, Tp, Tw, PlYi, Tz, Tw2, Tq, Tr, Ts, Tv, Tv2, PlYh, PlPa, PlPb, PlPc. -/
import Derived.Test.YtenjiecnhncfiaaGreatDoorPlYgtoTu9
import Derived.Test.YtenjiecnhncfiaaGreatDoorPlRtoPlPt
import Derived.Test.YtenjiecnhncfiaaGreatDoorPlPvtoPlYf
import Derived.Shelf.Spec.SlicesInsert
import Derived.Shelf.Spec.SlicesInsertGrow
import Derived.Lib.ItoaNum
open Bool (and_eq_true not_eq_true' or_eq_true)
open List (mem_map map_cons mem_filter all_eq_true length_append mem_cons length_drop all_cons length_take nodup_cons mem_range append_assoc map_nil any_eq_true length_cons take_of_length_le map_append mem_singleton filter_sublist headD_nil nil_append getElem?_set take_left all_nil)
open Nat (beq_eq le_refl lt_of_lt_of_le le_trans mul_one eq_of_beq_eq_true blt_eq zero_le le_succ zero_add ble_eq)
open Option.some (injEq)
open Array (length_toList)
set_option linter.all false
set_option linter.all false
namespace Go.PL
open Go Go.RowKit
variable {T:Bj}
def AdI (P:Program) (o:Oper) (st:Ai T):M (Ai T):=match o.op with
 | .load t x=>match o.dst,st.arg [] x,KP P t with
   | some d,some (.c (.rp id N i off)),some (false,1)=>match LV st id with
     | some ⟨E,(nn,l,none)⟩=>Ts (Fj id&&Nat.beq N (T.sz E)) (.opt (idx l i) fun x=> .opt (n_ (i<nn)) fun _=>match GA (T.ks E) (T.un E x) off with
       | some ⟨_,_⟩=> .ret (st.put (some d) (.c (.c (.h_ (1000007::(i.toNat*T.sz E+off)::id)))))
       | none=> .no)
     | _=> .no
   | _,_,_=> .no
 | _=> .no
def AdJ (P:Program) (o:Oper) (st:Ai T):M (Ai T):=match o.op with
 | .indexAddr t x y=>match o.dst,st.arg [] x,st.arg [] y,DG P t with
   | some d,some (.c (.c (.h_ (m::k::id)))),some (.c (.k (.int _) j)),some (_,n')=>match LV st id with
     | some ⟨E,(nn,l,none)⟩=>Ts (Fj id&&(Nat.beq m 1000007&&Nat.beq (T.sz E) 1)) (.opt (idx l (k:Int)) fun x=> .opt (n_ ((k:Int)<nn)) fun _=>match GA (T.ks E) (T.un E x) 0 with
       | some ⟨F,y⟩=>Ts (Nat.beq n' (T.sz F)) (.opt (idx y j) fun _=> .ret (st.put (some d) (.c (.c (.ptr (m::k::id) (j.toNat*n'))))))
       | none=> .no)
     | _=> .no
   | _,_,_,_=> .no
 | _=> .no
def AdK (P:Program) (o:Oper) (st:Ai T):M (Ai T):=match o.op with
 | .store t x y=>match o.dst,st.arg [] x,st.arg [] y,KP P t with
   | none,some (.c (.c (.ptr (m::k::id) off))),some (.c c),some (false,1)=>match LV st id with
     | some ⟨E,(nn,l,none)⟩=>Ts (Fj id&&(Nat.beq m 1000007&&Nat.beq (T.sz E) 1)) (.opt (idx l (k:Int)) fun x=> .opt (n_ ((k:Int)<nn)) fun _=>match GA (T.ks E) (T.un E x) 0 with
       | some ⟨F,y⟩=>Ts (Nat.beq (T.sz F) 1) (.opt (idx y (off:Int)) fun v=>match Kj c (T.ks F) (T.un F v) 0 with
         | some z=>match GB F (y.set off (T.bd F z)) (T.ks E) (T.un E x) 0 with
           | some x'=> .ret (st.abx id (.deep E nn (l.set k (T.bd E x')) none))
           | none=> .no
         | none=> .no)
       | none=> .no)
     | _=> .no
   | _,_,_,_=> .no
 | _=> .no
section
variable {H:Aw T} {P:Program} {I:World->Prop} {st:Ai T}
theorem Vg {E:Nat} {nn:Int} {l:List (T.den E)} {k off:Nat} {x:T.den E} (hx:l[k]? =some x) (hn:(k:Int)<nn) {F:Nat} {y:List (T.den F)} (hy:GA (T.ks E) (T.un E x) off=some ⟨F,y⟩):
 (AC T E nn 0 l)[k*T.sz E+off]? =some (.isl F (T.sz F) y.length (y.flatMap (T.enc F))):=by
 obtain⟨hc,acn⟩:=OZ hy;rw [J8 hx acn,if_pos (by omega)];exact hc
theorem AaA (hw:AJ H st) {o:Oper}:Yl (AdI P o st) (fun a_=>(∃ H',Nx H st H' a_)/\a_.pre=st.pre/\ ∀ K:St->Prop,K a_.toSt->DW P I o st.toSt K):=by
 unfold AdI;split
 ·rename_i t x hop;split
  ·rename_i d id N i off hd hx ht;split
   ·rename_i E nn l hdr;refine Yl.Ts fun hg=>Yl.opt fun xx hxx=>Yl.opt fun u hu=>?_;simp only [and_eq_true,beq_eq]at hg;obtain⟨g1,g2⟩:=hg;subst g2;split
    ·rename_i F y hy;have hin:=Cz hu;obtain⟨i0,i1,hxi⟩:=Jc hxx;obtain⟨a1,a2,a3⟩:=Ke hw hx;obtain⟨hmk,hlr,e,he1,he2,he3⟩:=CA hdr;have hE:e.toE=⟨id,some (E,T.sz E,l.length),AC T E nn 0 l,true⟩:=by unfold DE.toE;rw [he3,he2];rfl
     obtain⟨H4,n4⟩:=Ai.aar hw (some d) (v:= .c (.c (.h_ (1000007::(i.toNat*T.sz E+off)::id)))) (by simp only [DV.ok,DC.ok]);refine Yl.ret ⟨⟨H4,n4⟩,AW _ _ _,fun K hK Fr a w G Q hI hR=>?_⟩;have hL:st.toSt.Ti id=some e.toE:=hR.aaa (mem_map.2 ⟨e,he1,rfl⟩) (by rw [hE]) g1;have hk:e.toE.cs[i.toNat*T.sz E+off]? =some (.isl F (T.sz F) y.length (y.flatMap (T.enc F))):=by grind [Vg]
     have hxv:=hR.arg rfl a2;rw [a3]at hxv;simp only [DV.toV,DC.toC,Ae,Ah]at hxv;obtain⟨b,hb1,hv⟩:=hxv;obtain⟨_,hRE,b2,v,k3,k4,k5⟩:=hR.inner hL hk;rw [hb1]at k3;injection k3 with k3;subst k3;obtain⟨dd,ti,hu',hd',_⟩:=C9 ht;have acK:v.oneCell'=true:=by unfold Be at hRE;obtain⟨_,v2,c2,c3⟩:=hRE;rw [show (⟨B9 (i.toNat*T.sz E+off) id,some (F,T.sz F,y.length),y.flatMap (T.enc F),true⟩:Ax).id =B9 (i.toNat*T.sz E+off) id from rfl,k5]at c2;injection c2 with c2;subst c2;rcases c3 with ⟨p,rfl,_⟩ | ⟨b',cap,cur,rfl,_⟩<;>rfl
     have A_:(execOp a.eval o).run P w= .ok (.value v) w:=by simp_all [execOp,DT]
     refine AN A_ ⟨_,G,hK,?_⟩;rw [Ai.k_,hd];exact hR.put (by simp only [DV.toV,DC.toC,Ae,Ah];exact⟨k5,acK⟩)
    ·exact Yl.no
   ·exact Yl.no
  ·exact Yl.no
 ·exact Yl.no
theorem AaB (hw:AJ H st) {o:Oper}:Yl (AdJ P o st) (fun a_=>(∃ H',Nx H st H' a_)/\a_.pre=st.pre/\ ∀ K:St->Prop,K a_.toSt->DW P I o st.toSt K):=by
 unfold AdJ;split
 ·rename_i t x y hop;split
  ·rename_i d m k id ki j E' n' hd hx hy ht;split
   ·rename_i E nn l hdr;refine Yl.Ts fun hg=>Yl.opt fun xx hxx=>Yl.opt fun u hu=>?_;simp only [and_eq_true,beq_eq]at hg;obtain⟨g1,g2,g3⟩:=hg;subst g2;split
    ·rename_i F r hr;refine Yl.Ts fun hg'=>Yl.opt fun z hz=>?_;have g4:n'=T.sz F:=by simp_all
     subst g4;have hin:=Cz hu;obtain⟨i0,i1,hxi⟩:=Jc hxx;obtain⟨j0,j1,_⟩:=Jc hz;obtain⟨a1,a2,a3⟩:=Ke hw hx;obtain⟨b1,b2,b3⟩:=Ke hw hy;obtain⟨hmk,hlr,e,he1,he2,he3⟩:=CA hdr;have hE:e.toE=⟨id,some (E,T.sz E,l.length),AC T E nn 0 l,true⟩:=by unfold DE.toE;rw [he3,he2];rfl
     obtain⟨H4,n4⟩:=Ai.aar hw (some d) (v:= .c (.c (.ptr (1000007::k::id) (j.toNat*T.sz F)))) (by simp only [DV.ok,DC.ok]);refine Yl.ret ⟨⟨H4,n4⟩,AW _ _ _,fun K hK Fr a w G Q hI hR=>?_⟩;have hL:st.toSt.Ti id=some e.toE:=hR.aaa (mem_map.2 ⟨e,he1,rfl⟩) (by rw [hE]) g1;have hk:e.toE.cs[k]? =some (.isl F (T.sz F) r.length (r.flatMap (T.enc F))):=by rw [hE];have:=Vg (nn:=nn) (k:=k) (off:=0) (by simpa using hxi) hin hr;grind
     have hxv:=hR.arg rfl a2;have hyv:=hR.arg rfl b2;rw [a3]at hxv;rw [b3]at hyv;simp only [DV.toV,DC.toC,Bz,Ae,Ah]at hxv hyv;obtain⟨_,hRE,_⟩:=hR.inner hL hk;unfold Be at hRE;obtain⟨_,v2,c2,c3⟩:=hRE;rw [show (⟨B9 k id,some (F,T.sz F,r.length),r.flatMap (T.enc F),true⟩:Ax).id =B9 k id from rfl,show B9 k id=1000007::k::id from rfl,hxv.1]at c2;injection c2 with c2;rcases c3 with ⟨p,_,c4,_⟩ | ⟨b',cap,cur,c3,e2,_⟩
     ·omega
     ·have A_:(execOp a.eval o).run P w= .ok (.value (.pointer (some ⟨b',0+j.toNat*T.sz F,none⟩))) w:=by simp [execOp,hop,hyv,c2,c3,Ed ht b' 0 r.length cap ki j j0 j1 w]
      refine AN A_ ⟨_,G,hK,?_⟩;rw [Ai.k_,hd];exact hR.put (by simp only [DV.toV,DC.toC,Ae,Ah];exact⟨b',e2,by grind⟩)
    ·exact Yl.no
   ·exact Yl.no
  ·exact Yl.no
 ·exact Yl.no
theorem mu {F:Nat} {c:C} {v':T.den F} (hs:T.sz F=1) (hv:T.enc F v'=[c]): ∀ {y:List (T.den F)} {off:Nat},off<y.length->(y.set off v').flatMap (T.enc F)=(y.flatMap (T.enc F)).take off++[c]++(y.flatMap (T.enc F)).drop (off+1)
 | [],_,h=>by simp at h
 | a::y,0,_=>by grind [AV]
 | a::y,off+1,h=>by
   have ha:(T.enc F a).length =1:=by rw [AV,hs]
   obtain⟨q,hq⟩: ∃ q,T.enc F a=[q]:=List.length_eq_one_iff.1 ha;have:=mu hs hv (y:=y) (off:=off) (by simpa using h);simp [hq,this]
theorem AaC (hw:AJ H st) {o:Oper}:Yl (AdK P o st) (fun a_=>(∃ H',Nx H st H' a_)/\a_.pre=st.pre/\ ∀ K:St->Prop,K a_.toSt->DW P I o st.toSt K):=by
 unfold AdK;split
 ·rename_i t x y hop;split
  ·rename_i m k id off c hd hx hy ht;split
   ·rename_i E nn l hdr;refine Yl.Ts fun hg=>Yl.opt fun xx hxx=>Yl.opt fun u hu=>?_;simp only [and_eq_true,beq_eq]at hg;obtain⟨g1,g2,g3⟩:=hg;subst g2;split
    ·rename_i F r hr;refine Yl.Ts fun hg'=>Yl.opt fun v hv0=>?_;have g4:T.sz F=1:=by simp_all
     split
     ·rename_i z hz;split
      ·rename_i x' hx';have hin:=Cz hu;obtain⟨i0,i1,hxi⟩:=Jc hxx;obtain⟨j0,j1,hvi⟩:=Jc hv0;simp only [Int.toNat_natCast]at hxi hvi;have hkl:k<l.length:=by omega
       have hol:off<r.length:=by omega
       obtain⟨a1,a2,a3⟩:=Ke hw hx;obtain⟨b1,b2,b3⟩:=Ke hw hy;obtain⟨hmk,hlr,e,he1,he2,he3⟩:=CA hdr;obtain⟨z1,z2,_,z3,z4⟩:=O0 hz;obtain⟨w1,w2⟩:=M7 hx';have hE:e.toE=⟨id,some (E,T.sz E,l.length),AC T E nn 0 l,true⟩:=by unfold DE.toE;rw [he3,he2];rfl
       have hk:e.toE.cs[k]? =some (.isl F (T.sz F) r.length (r.flatMap (T.enc F))):=by rw [hE];have:=Vg (nn:=nn) (k:=k) (off:=0) hxi hin hr;grind
       have hv':T.enc F (T.bd F z)=[c.toC]:=by
        have hl1:(BD T.enc (T.ks F) (T.un F v)).length =1:=by have:=AV F v;rw [<-T.aa0,g4]at this;exact this
        obtain⟨q,hq⟩:=List.length_eq_one_iff.1 hl1;rw [<-T.aa0,T.aev,z2,hq];rfl
       have hfl:=mu g4 hv' hol;have ai_:T.aa2 E (T.bd E x')=(T.aa2 E xx).set 0 (.isl F (T.sz F) r.length ((r.flatMap (T.enc F)).take off++[c.toC]++(r.flatMap (T.enc F)).drop (off+[c.toC].length))):=by rw [Bj.aa2,T.aev,w1];rw [List.length_set,hfl];rfl
       have ahx:=Rr (n:=nn) (k:=0) (x':=T.bd E x') (p:=0) hxi (by omega) ai_ (by omega);obtain⟨H2,n2⟩:=Ai.abk hw id (x:= .deep E nn (l.set k (T.bd E x')) none) trivial;refine Yl.ret ⟨⟨H2,n2⟩,rfl,fun K hK Fr a w G Q hI hR=>?_⟩;have hm:e.toE∈st.toSt.so:=mem_map.2 ⟨e,he1,rfl⟩;have hL:st.toSt.Ti id=some e.toE:=hR.aaa hm (by rw [hE]) g1;have hxv:=hR.arg rfl a2;rw [a3]at hxv;simp only [DV.toV,DC.toC,Ae,Ah]at hxv;obtain⟨b,hb1,hv⟩:=hxv;have hyv:=hR.arg rfl b2;rw [b3]at hyv;simp only [DV.toV,Ae]at hyv;have acK:=hyv.one;have hcl:(a.eval y).cells.toList =[a.eval y]:=by cases hq:a.eval y<;>rw [hq]at acK<;>first | rfl | cases acK
       have hc:Al w G [c.toC] (a.eval y).cells.toList :=by rw [hcl];exact⟨hyv,trivial⟩
       have aEU:(r.flatMap (T.enc F)).length =r.length:=by rw [BP (fun y=>AV F y),g4,mul_one]
       obtain⟨cur,T',c1,c2,c3⟩:=hR.af8 hL hk (b:=b) hb1 (off:=off) hc (by grind) (by simp [Ap,z3]);have hs:=Eg (P:=P) ht c1 (by grind) c2 (Al.one hc);generalize w.setRow b _=w1 at hs c3;have A_:(execOp a.eval o).run P w= .ok .skip w1:=by simp_all [execOp]
       refine FG A_ ?_;rw [hd];refine⟨_,G,hK,c3.less ?_⟩;refine M6 (LK.refl _) (LK.refl _) ?_ (HQ n2.ok) rfl;intro u hu;obtain⟨e3,h1,rfl⟩:=mem_map.1 hu;rcases acr hw.nd h1 with ⟨h1,h2⟩ | h1
       ·exact mem_map.2 ⟨e3.toE,mem_map.2 ⟨e3,h1,rfl⟩,(by grind [Gu,DE.toE_id])⟩
       ·subst h1;refine mem_map.2 ⟨e.toE,hm,?_⟩;rw [Gv (by rw [hE])];show _=(⟨id,some (E,T.sz E,(l.set k (T.bd E x')).length),AC T E nn 0 (l.set k (T.bd E x')),true⟩:Ax);grind
      ·exact Yl.no
     ·exact Yl.no
    ·exact Yl.no
   ·exact Yl.no
  ·exact Yl.no
 ·exact Yl.no
end
end Go.PL
set_option linter.all false
namespace Go.PL
open Go Go.RowKit
variable {T:Bj}
def mkF {den:Nat->Type}:(ks:List Kd)->Option (Int->DK den ks)
 | [.int .u8]=>some fun n=>(n,())
 | _=>none
theorem xi {den:Nat->Type} {enc: ∀ E,den E->List C}: ∀ {ks:List Kd} {f:Int->DK den ks},mkF ks=some f-> ∀ n,BD enc ks (f n)=[.int .u8 n]
 | [.int .u8],f,h,n=>by injection h with h;subst h;rfl
def dby (P:Program) (o:Oper) (st:Ai T):M (Ai T):=match o.op with
 | .convert src dst x=>match st.ev x,rQ P dst,Eb P src with
   | .c (.k .str s),some E,true=>match mkF (den:=T.den) (T.ks E)with
     | some f=> .opt (n_ (s.length<=140737488355328)) fun _=> .ret (st.put o.dst (.c (.k (.u_ E) (s.map fun b=>T.bd E (f (b.toNat:Int))))))
     | none=> .no
   | _,_,_=> .no
 | _=> .no
theorem AdL {H:Aw T} {P:Program} {I:World->Prop} {st:Ai T} (hw:AJ H st) {o:Oper}:Yl (dby P o st) (fun a_=>(∃ H',Nx H st H' a_)/\a_.pre=st.pre/\ ∀ K:St->Prop,K a_.toSt->DW P I o st.toSt K):=by
 unfold dby
 split
 ·rename_i src dst x hop;split
  ·rename_i s E hev hb hs;split
   ·rename_i f hf;refine Yl.opt fun u hu=>?_;obtain⟨H4,n4⟩:=Ai.aar hw o.dst (v:= .c (.k (.u_ E) (s.map fun b=>T.bd E (f (b.toNat:Int))))) (by simp only [DV.ok,DC.ok]);refine Yl.ret ⟨⟨H4,n4⟩,AW _ _ _,fun K hK=>?_⟩;have ags:=st.abE x;rw [hev]at ags;have he: ∀ n,T.enc E (T.bd E (f n))=[.int .u8 n]:=fun n=>by rw [<-T.aa0,T.aev];exact xi hf n
    have hv:(DV.c (.k (.u_ E) (s.map fun b=>T.bd E (f (b.toNat:Int)))):DV T).toV =vL (eI .u8) (Di s):=by
     have hfl: ∀ s:List UInt8,(s.map fun b=>T.bd E (f (b.toNat:Int))).flatMap (T.enc E)=(Di s).flatMap (eI .u8):=fun s=>by
      induction s with
      | nil=>rfl
      | cons b s ih=>
        simp only [Di,map_cons,List.flatMap_cons]at ih ⊢;rw [ih,he];rfl
     have hln: ∀ s:List UInt8,(s.map fun b=>T.bd E (f (b.toNat:Int))).length =(Di s).length :=fun s=>by simp [Di]
     exact congr (congrArg (fun n l=>V.c (C.sl n l)) (hln s)) (hfl s)
    rw [Ai.k_,hv]at hK;exact DW.bytes E s hop (Cz hu) hK (by rw [ags];rfl) hs hb
   ·exact Yl.no
  ·exact Yl.no
 ·exact Yl.no
end Go.PL
set_option linter.all false
namespace Go.PL
open Go Go.RowKit
variable {T:Bj}
def Acp {P:Program} {I:World->Prop} (g:Nat) (t:List (List UInt8)) (h:OG I g t):CE T P I where
 f:=0
 ps:=[]
 rs:=[]
 run:=fun _=>none
 ok:=(by grind)
 tab:=some (g,t)
 ao2:=(by grind)
def SG {P:Program} {I:World->Prop} (g:Nat):List (CE T P I)->Option (List (List UInt8))
 | []=>none
 | e::r=>match e.tab with
   | some (g',t)=>match Nat.beq g' g with
     | true=>some t
     | false=>SG g r
   | none=>SG g r
theorem Rt {P:Program} {I:World->Prop} {g:Nat} {t:List (List UInt8)}: ∀ {l:List (CE T P I)},SG g l=some t->OG I g t
 | [],h=>nomatch h
 | e::r,h=>by
   unfold SG at h;split at h
   ·rename_i g' t' he;split at h
    ·rename_i hb;injection h with h;subst h;have:=eq_of_beq_eq_true hb;subst this;exact e.ao2 _ _ he
    ·exact Rt h
   ·exact Rt h
def Acq (i:Int) (n:Nat):Option Unit:=n_ (0<=i/\i<((n:Nat):Int))
theorem AaD {i:Int} {n:Nat} {u:Unit} (h:Acq i n=some u):0<=i/\i<((n:Nat):Int):=Cz h
def dga (P:Program) (o:Oper) (st:Ai T):M (Ai T):=match o.op with
 | .indexAddr t (.global g) x=>match st.ev x,Gq P t with
   | .c (.k (.int _) i),some (n,_,1)=> .opt (Acq i n) fun _=> .ret (st.put o.dst (.c (.c (.afY g (Int.toNat i)))))
   | _,_=> .no
 | _=> .no
def dgl {P:Program} {I:World->Prop} (Γ:List (CE T P I)) (o:Oper) (st:Ai T):M (Ai T):=match o.op with
 | .load t x=>match st.ev x,KP P t with
   | .c (.c (.afY g off)),some (false,1)=>match SG g Γ with
     | some tab=> .opt (n_ (off<tab.length)) fun _=> .ret (st.put o.dst (.c (.k .str (tab.getD off []))))
     | none=> .no
   | _,_=> .no
 | _=> .no
theorem AdM {H:Aw T} {P:Program} {I:World->Prop} {st:Ai T} (hw:AJ H st) {o:Oper}:Yl (dga P o st) (fun a_=>(∃ H',Nx H st H' a_)/\a_.pre=st.pre/\ ∀ K:St->Prop,K a_.toSt->DW P I o st.toSt K):=by
 unfold dga;split
 ·rename_i t g x hop;split
  ·rename_i k i n E hev ht;refine Yl.opt fun u hu=>?_;obtain⟨H4,n4⟩:=Ai.aar hw o.dst (v:= .c (.c (.afY g (Int.toNat i)))) (by simp only [DV.ok,DC.ok]);refine Yl.ret ⟨⟨H4,n4⟩,AW _ _ _,fun K hK=>?_⟩;have ags:=st.abE x;rw [hev]at ags;rw [Ai.k_]at hK;exact DW.at2 hop (AaD hu) hK (by rw [ags];rfl) ht
  ·exact Yl.no
 ·exact Yl.no
theorem AdN {H:Aw T} {P:Program} {I:World->Prop} {Γ:List (CE T P I)} {st:Ai T} (hw:AJ H st) {o:Oper}:Yl (dgl Γ o st) (fun a_=>(∃ H',Nx H st H' a_)/\a_.pre=st.pre/\ ∀ K:St->Prop,K a_.toSt->DW P I o st.toSt K):=by
 unfold dgl;split
 ·rename_i t x hop;split
  ·rename_i g off hev ht;split
   ·rename_i tab htab;refine Yl.opt fun u hu=>?_;obtain⟨H4,n4⟩:=Ai.aar hw o.dst (v:= .c (.k .str (tab.getD off []))) (by simp only [DV.ok,DC.ok]);refine Yl.ret ⟨⟨H4,n4⟩,AW _ _ _,fun K hK=>?_⟩;have ags:=st.abE x;rw [hev]at ags;rw [Ai.k_]at hK;exact DW.at1 hop (Rt htab) (Cz hu) hK (by rw [ags];rfl) ht
   ·exact Yl.no
  ·exact Yl.no
 ·exact Yl.no
end Go.PL
set_option linter.all false
namespace Go.PL
open Go Go.RowKit
variable {T:Bj}
def gc (st:Ai T) (E:Nat):Nat->List (DC T)->Option (List (T.den E)×List Ak)
 | 0,[]=>some ([],[])
 | 0,_::_=>none
 | n+1,cs=>match SC st (T.ks E) (cs.take (T.sz E)),gc st E n (cs.drop (T.sz E))with
   | some (z,rs),some (l,rs')=>some (T.bd E z::l,rs++rs')
   | _,_=>none
structure AhL (st:Ai T) (E:Nat) (cs:List (DC T)) (l:List (T.den E)) (rs:List Ak) (b:Nat) (ars:List AR):Prop where
 ids:ars.map (·.r)=rs
 len:cs.length=l.length*T.sz E
 at_: ∀ x∈ars,st.toSt.look x.r=some x.ent/\b<=x.k/\x.k<b+cs.length/\(As cs)[x.k - b]? =some (.h_ x.r)
 ajV: ∀ pre post:List C,pre.length=b->IY (pre++((As cs).map NX++post)) ars=pre++(l.flatMap (T.aa2 E)++post)
 pure:Ap ((As cs).map NX)=true
 noi:((As cs).map NX).all pi=true
theorem pZ (cs:List (DC T)) (n:Nat):As cs=As (cs.take n)++As (cs.drop n):=by grind [CG,List.take_append_drop]
theorem ji (l:List C) (a b:List AR):IY l (a++b)=IY (IY l a) b:=by grind [IY]
theorem aM {st:Ai T} {E:Nat}: ∀ {n:Nat} {cs:List (DC T)} {l:List (T.den E)} {rs:List Ak},gc st E n cs=some (l,rs)-> ∀ b:Nat, ∃ ars,AhL st E cs l rs b ars/\l.length=n
 | 0,[],l,rs,h,b=>by simp only [gc,injEq]at h;injection h with h1 h2;subst h1 h2;exact⟨[],⟨rfl,by simp,(by grind),(fun pre post _=>rfl),rfl,rfl⟩,rfl⟩
 | 0,_::_,_,_,h,_=>by simp [gc]at h
 | n+1,cs,l,rs,h,b=>by
   unfold gc at h;split at h
   ·rename_i z rs1 l' rs' h1 h2;injection h with h;injection h with e1 e2;subst e1 e2;obtain⟨a1,ha⟩:=Jv h1 b;obtain⟨a2,hb,hl⟩:=aM h2 (b+T.sz E);have hlen:(cs.take (T.sz E)).length =T.sz E:=ha.len;have hle:T.sz E<=cs.length:=by grind
    have hd:(cs.drop (T.sz E)).length =cs.length - T.sz E:=length_drop;have htl:(As (cs.take (T.sz E))).length =T.sz E:=by rw [AM,hlen]
    have hsp:=pZ cs (T.sz E);have hdz:BQ T (T.ks E) z=T.aa2 E (T.bd E z):=by rw [Bj.aa2,T.aev]
    refine⟨a1++a2,⟨by rw [map_append,ha.ids,hb.ids],?_,fun x hx=>?_,fun pre post hp=>?_,?_,?_⟩,by simp [hl]⟩
    ·have:=hb.len;simp_all [Nat.add_mul]
    ·rcases List.mem_append.1 hx with hx | hx
     ·obtain⟨p1,p2,p3,p4⟩:=ha.at_ x hx;grind
     ·obtain⟨p1,p2,p3,p4⟩:=hb.at_ x hx;grind
    ·rw [hsp,map_append,append_assoc,ji,ha.ajV pre _ hp,hdz];have:=hb.ajV (pre++T.aa2 E (T.bd E z)) post (by grind [Ej]);grind
    ·rw [hsp,map_append,B0,ha.pure,hb.pure];rfl
    ·rw [hsp,map_append,List.all_append,ha.noi,hb.noi];rfl
   ·cases h
theorem WZ {E:Nat} {n:Int}: ∀ {l:List (T.den E)} {k:Int},k+l.length<=n->AC T E n k l=l.flatMap (T.aa2 E)
 | [],_,_=>rfl
 | x::l,k,h=>by simp only [length_cons]at h;rw [AC,if_pos (by omega),WZ (by omega),List.flatMap_cons]
def aO (rs:List Ak) (r i:Ak):Bool:=match Bi i r with
 | true=>true
 | false=>match Bi i (1000003::r)with
   | true=>true
   | false=>Vf rs (1000003::r) i
theorem O1 {rs:List Ak} {r i:Ak} (h:aO rs r i=false):i ≠ r/\i ≠ 1000003::r/\Vf rs (1000003::r) i=false/\EL (1000003::r) i=false:=by
 unfold aO at h;split at h
 ·cases h
 ·rename_i h1;split at h
  ·cases h
  ·rename_i h2;refine⟨(by grind [AP]),(by grind [AP]),h,?_⟩;have: ∀ rs:List Ak,Vf rs (1000003::r) i=false->EL (1000003::r) i=false:=by intro rs;induction rs<;>grind [Vf,M5]
   grind
def dsb (P:Program) (o:Oper) (st:Ai T):M (Ai T):=match o.op,o.dst with
 | .buildSlice t len ps,some d=>match Fd P t,J9 st [] ps.toList with
   | some (E,n,_),some vs=>match Rc P E with
     | some z=>match WJ (fun i=>some (i*n,n)) ((List.replicate len z).flatMap id) (vs.map fun x=>(x.1,UZ x.2))with
       | some cs=>match gc st E len cs with
         | some (l,rs)=>Ts ((Nat.beq n (T.sz E)&&(Nat.beq z.length n&&(Nat.blt 0 n&&Nat.ble (len*n) (2 ^ 24))))&&(Nat.blt 0 len&&(MS rs&&(!Rj rs (d::st.pre)&&(!Fj (d::st.pre)&& !Dh (d::st.pre))))))
          (.ret ((BB [(1000003::d::st.pre, .deep E (l.length:Nat) l none)] (st.ack (aO rs (d::st.pre)))).put (some d) (.c (.c (.h_ (1000003::d::st.pre))))))
         | none=> .no
       | none=> .no
     | none=> .no
   | _,_=> .no
 | _,_=> .no
theorem mv {p q:Ak->Bool} (h: ∀ i,q i=true->p i=true) {v:V} (hv:v.i_ p=false):Ca q v=v:=by unfold Ca;rw [if_neg (by rw [FJ h v hv];simp)]
theorem jk {p:Ak->Bool} {r:Ak} (hr:p r=true) {v:V} (hv:v.i_ p=false):Fa r v=v:=by grind [Fa,iG]
theorem fO.put {p:Ak->Bool} {id:Ak} {ns:List Ak} {new:Ax} {A B:St} (h:fO p id ns new A B) (d:Nat) {v:V} (hv:v.i_ p=false):fO p id ns new (A.put (some d) v) (B.put (some d) v):=by refine⟨by simp [St.put,h.len],fun i=>?_,h.ane,h.gh,h.so,h.nd,h.pre⟩;have hl:=h.len;have:=h.tm i;simp only [St.put,List.getD_eq_getElem?_getD,getElem?_set,hl]at this ⊢;grind
theorem AdO {H:Aw T} {P:Program} {I:World->Prop} {st:Ai T} (hw:AJ H st) {o:Oper}:Yl (dsb P o st) (fun a_=>(∃ H',Nx H st H' a_)/\a_.pre=st.pre/\ ∀ K:St->Prop,K a_.toSt->DW P I o st.toSt K):=by
 unfold dsb;split
 ·rename_i t len ps d hop hd;split
  ·rename_i E n by' vs abP hp;split
   ·rename_i z hz;split
    ·rename_i cs hf;split
     ·rename_i l rs hea;refine Yl.Ts fun hg=>?_;simp only [and_eq_true,beq_eq,blt_eq,ble_eq,not_eq_true']at hg;obtain⟨⟨g1,g2,g3,g4⟩,g5,g6,g7,g8,g9⟩:=hg;subst g1;generalize hr0:d::st.pre=r0 at g7 g8 g9 ⊢;have hrs:r0∉rs:=(by grind [Rl]);obtain⟨ars,ha,hl⟩:=aM hea 0;obtain⟨⟨H1,n1⟩,k4,k5⟩:=M8 hw (aO rs r0);obtain⟨H2,n2⟩:=L7 (l:=[(1000003::r0,DX.deep E (l.length:Nat) l none)]) n1 (fun p hp=>by rcases mem_singleton.1 hp with rfl;trivial) (by simp) (fun p hp e he q=>by rcases mem_singleton.1 hp with rfl;have:=(O1 (k5 e he).2.1).2.1;exact this q)
      obtain⟨s1,s2,s3,s4,s5,_⟩:=Ga [(1000003::r0,DX.deep E (l.length:Nat) l none)] (st.ack (aO rs r0));obtain⟨H3,n3⟩:=Ai.R_ n2 (some d) (v:= .c (.c (.h_ (1000003::r0)))) (by simp only [DV.ok,DC.ok]);refine Yl.ret ⟨⟨H3,n3⟩,by grind [AW],fun K hK F a w G Q hI hR=>?_⟩;obtain⟨p1,p2,p3⟩:=Ih (key:=[]) hw (fun _ hl=>by cases hl) rfl hp;obtain⟨z1,z2⟩:=Ik hz;obtain⟨f1,_⟩:=Ka hf;rw [Rf z (by omega),Z0]at f1;change (st.toSt.parts true ps.toList).1 at p2;change (st.toSt.parts true ps.toList).2=wP vs at p3;rw [<-p3]at f1;obtain⟨abo,q1,q2,q3,q4,q5⟩:=JP hR abP z1 f1 p2 (by rw [AM];exact g2) g3 g4;have A_:(execOp a.eval o).run P w= .ok (.value (.slice (some ⟨w.heap.size,0,none⟩) len len)) (w.alloc (.cells abo E)):=by simp [execOp,hop,q1]
      have hml:((As cs).map NX).length =len*T.sz E:=by grind
      have IN:=hR.row r0 E (T.sz E) len len ((As cs).map NX) abo abo.toList (aE q2) (by grind) hml q4 (le_refl _) q5 true (fun _=>ha.pure);have atz:(⟨r0,some (E,T.sz E,len),(As cs).map NX,true⟩:Ax)∈(st.toSt.new ⟨r0,some (E,T.sz E,len),(As cs).map NX,true⟩).so :=by grind [St.new,We,Ax.kill]
      have axp:=IN.adk atz rfl g8 rfl;obtain⟨G2,h2,h3,h4⟩:=IN.ala axp rfl rfl ha.noi (id:=1000003::r0) rfl rfl;have aaz:G2.own (1000003::r0)=some (.slice (some ⟨w.heap.size,0,none⟩) len len):=by rw [h3];simp [Cb]
      have hL:=h2.aaa List.mem_cons_self rfl rfl;have hb:G2.p_ (1000003::r0)=some w.heap.size:=by obtain⟨hm,_⟩:=PS hL;have hE:=h2.store _ hm;grind [Be]
      have h5:=h2.put (d:=some d) (v:= .slice (some ⟨w.heap.size,0,none⟩) len len) (x:= .c (.h_ (1000003::r0))) (by simp only [Ae,Ah];exact⟨aaz,rfl⟩);have hL5:=h5.aaa (e:=⟨1000003::r0,some (E,T.sz E,len),(As cs).map NX,true⟩) (id:=1000003::r0) (by simp only [St.put];exact List.mem_cons_self) rfl rfl;have abR: ∀ e∈st.toSt.so,e.id ≠ r0->e.id ≠ 1000003::r0->(e.pu=true\/Dp (aO rs r0) e.cs=false)->e∈((st.toSt.new ⟨r0,some (E,T.sz E,len),(As cs).map NX,true⟩).e_ (fun i=>i==r0||(i==1000003::r0||EL (1000003::r0) i)) (⟨1000003::r0,some (E,T.sz E,len),(As cs).map NX,true⟩::(((st.toSt.new ⟨r0,some (E,T.sz E,len),(As cs).map NX,true⟩).so.filter (fun d=>d.id != r0&&d.id != 1000003::r0)).map (Ax.e_ (fun i=>i==r0||(i==1000003::r0||EL (1000003::r0) i)))))).so :=by
       intro e he e1 e2 e3;simp only [St.e_,mem_cons,mem_map,mem_filter];right;have hk:e.kill r0=e:=by
        obtain⟨i,r,c,pu⟩:=e;cases pu with
        | true=>rfl
        | false=>
          rcases e3 with e3 | e3
          ·cases e3
          ·exact Ax.afq (by
            simp only [Ax.fre,Bool.false_or,not_eq_true'];cases hq:BS r0 c with
            | false=>rfl
            | true=>
              have:=Zk (aO rs r0) r0 c e3 hq;simp [aO,AP.2 rfl]at this)
       have hkp:e.e_ (fun i=>i==r0||(i==1000003::r0||EL (1000003::r0) i))=e:=by
        obtain⟨i,r,c,pu⟩:=e;cases pu with
        | true=>rfl
        | false=>
          rcases e3 with e3 | e3
          ·cases e3
          ·simp only [Ax.e_,Ax.mk.injEq,true_and,and_true];grind [U8,FI,aO,O1]
       grind [St.new,We,St.kill]
      have afT: ∀ i,(i==r0||(i==1000003::r0||EL (1000003::r0) i))=true->aO rs r0 i=true:=(by grind [aO,O1]);have apu: ∀ i,Vf rs (1000003::r0) i=true->aO rs r0 i=true:=(by grind [O1]);have apw:aO rs r0 r0=true:=by grind
      have akm: ∀ v:V,v.i_ (aO rs r0)=false->Ca (fun i=>i==r0||(i==1000003::r0||EL (1000003::r0) i)) (Fa r0 v)=v:=(by grind [jk,mv]);have axO:(C.h_ (1000003::r0)).i_ (Vf rs (1000003::r0))=false:=by
       simp only [C.i_];have: ∀ rs':List Ak,(∀ x∈rs',Fj x=false)->Vf rs' (1000003::r0) (1000003::r0)=false:=by
        intro rs';induction rs' with
        | nil=>
          intro _;simp only [Vf,M5];cases hq:EL (1000003::r0) (1000003::r0)with
          | false=>rfl
          | true=>have:=JY hq;cases this
        | cons y rs' ih=>
          intro hy;simp only [Vf];split
          ·rename_i hq;have:=AP.1 hq;have h8:=hy y (by simp);rw [<-this]at h8;cases h8
          grind
       refine this rs fun x hx=>?_;rw [<-ha.ids]at hx;obtain⟨ar,har,rfl⟩:=mem_map.1 hx;exact FA (ha.at_ ar har).1
      obtain⟨G',q⟩:=h5.agC (p:=Vf rs (1000003::r0)) ars hL5 hb (fun ar har=>by
       obtain⟨p1,_,p3',p4⟩:=ha.at_ ar har;obtain⟨hmr,afV⟩:=Bh p1;have hnd:=FA p1;have hin:ar.r∈rs:=by rw [<-ha.ids];grind
       have hrr:ar.r ≠ r0:=(by grind);have hrD:ar.r ≠ 1000003::r0:=fun q=>by rw [q]at hnd;cases hnd
       obtain⟨v,v1,v2⟩:=aF q2 p4;simp only [Ah]at v2;refine⟨h5.adk (abR _ hmr (by grind) (by grind) (.inl rfl)) afV hnd rfl,by grind,jg hin,v,?_,?_⟩
       all_goals simp_all [Cb]) (by rw [ha.ids];exact Ic g6) ((BB [(1000003::r0,DX.deep E (l.length:Nat) l none)] (st.ack (aO rs r0))).put (some d) (.c (.c (.h_ (1000003::r0))))).toSt (by
       rw [Ai.k_];refine fO.put ?_ d (by grind [V.i_]);have aaF:dx (1000003::r0,(DX.deep E (l.length:Nat) l none:DX T))=⟨1000003::r0,some (E,T.sz E,len),IY ((As cs).map NX) ars,true⟩:=by show (⟨1000003::r0,some (E,T.sz E,l.length),AC T E (l.length:Nat) 0 l,true⟩:Ax)=_;have:=ha.ajV [] [] rfl;grind [WZ]
       have etm:(BB [(1000003::r0,DX.deep E (l.length:Nat) l none)] (st.ack (aO rs r0))).toSt.tm =(st.ack (aO rs r0)).toSt.tm :=by grind [Ai.toSt]
       have egh:(BB [(1000003::r0,DX.deep E (l.length:Nat) l none)] (st.ack (aO rs r0))).toSt.gh =(st.ack (aO rs r0)).toSt.gh :=by simp only [Ai.toSt,s2]
       have hz2: ∀ (r:Ak),Fa r .undef = .undef :=fun r=>by simp [Fa,V.s_]
       have hz3: ∀ (p:Ak->Bool),Ca p .undef = .undef :=fun p=>by simp [Ca,V.i_]
       have gm: ∀ (m:List V) (f:V->V),f .undef = .undef -> ∀ i,(m.map f).getD i .undef =f (m.getD i .undef):=(by grind);refine⟨?_,fun i=>?_,?_,fun i=>?_,fun x hx=>?_,HQ n2.ok,?_⟩
       ·rw [etm];show (AD _ _).length =_;simp only [St.e_,St.new,St.kill,List.length_map,Bw];show _=(AD _ _).length;rw [Bw];rfl
       ·rw [etm];rcases aB (p:=aO rs r0) st.m st.nx st.tm i with q | ⟨q,q'⟩
        ·exact .inl q
        ·right;have e:(St.e_ (st.toSt.new ⟨r0,some (E,T.sz E,len),(As cs).map NX,true⟩) (fun i=>i==r0||(i==1000003::r0||EL (1000003::r0) i)) (⟨1000003::r0,some (E,T.sz E,len),(As cs).map NX,true⟩::(((st.toSt.new ⟨r0,some (E,T.sz E,len),(As cs).map NX,true⟩).so.filter (fun d=>d.id != r0&&d.id != 1000003::r0)).map (Ax.e_ (fun i=>i==r0||(i==1000003::r0||EL (1000003::r0) i)))))).tm.getD i .undef =st.toSt.tm.getD i .undef :=by simp only [St.e_,St.new,St.kill];rw [gm _ _ (hz3 _),gm _ _ (hz2 _)];exact akm _ q'
         rw [e];exact⟨q,FJ apu _ q'⟩
       ·rw [egh];have:=(mq (p:=aO rs r0) st.gh (st.nx+st.tm.length)).1;simp only [St.e_,St.new,St.kill,List.length_map];exact this
       ·rw [egh];rcases (mq (p:=aO rs r0) st.gh (st.nx+st.tm.length)).2 i with q | ⟨q,q'⟩
        ·exact .inl q
        ·right;have e:(St.e_ (st.toSt.new ⟨r0,some (E,T.sz E,len),(As cs).map NX,true⟩) (fun i=>i==r0||(i==1000003::r0||EL (1000003::r0) i)) (⟨1000003::r0,some (E,T.sz E,len),(As cs).map NX,true⟩::(((st.toSt.new ⟨r0,some (E,T.sz E,len),(As cs).map NX,true⟩).so.filter (fun d=>d.id != r0&&d.id != 1000003::r0)).map (Ax.e_ (fun i=>i==r0||(i==1000003::r0||EL (1000003::r0) i)))))).gh.getD i .undef =st.toSt.gh.getD i .undef :=by simp only [St.e_,St.new,St.kill];rw [gm _ _ (hz3 _),gm _ _ (hz2 _)];exact akm _ q'
         rw [e];exact⟨q,FJ apu _ q'⟩
       ·rw [s5]at hx;simp only [map_cons,map_nil,List.singleton_append,mem_cons]at hx;rcases hx with rfl | hx
        ·grind
        ·right;obtain⟨e,he,rfl⟩:=mem_map.1 hx;obtain⟨c1,c2,c3⟩:=k5 e he;obtain⟨t1,t2,t3,_⟩:=O1 c2;have hpm:e.toE.pu=true\/Dp (aO rs r0) e.toE.cs=false:=by
          unfold DE.toE;cases hx:e.x with
          | box cs=>
            right;rw [hx]at c3;simpa only [DX.i_,F9] using c3
          | row E l=>grind
          | deep E n l h=>grind
         refine⟨abR _ (mem_map.2 ⟨e,c1,rfl⟩) (by rw [DE.toE_id];exact t1) (by rw [DE.toE_id];exact t2) hpm,by rw [DE.toE_id];exact t2,?_,(by grind [FI])⟩;rw [DE.toE_id,ha.ids];grind [YF]
       ·show (BB _ _).pre =st.pre;grind)
      grind [AN]
     ·exact Yl.no
    ·exact Yl.no
   ·exact Yl.no
  ·exact Yl.no
 ·exact Yl.no
end Go.PL
namespace Go.PL
open Go Go.RowKit
variable {T:Bj}
def jn {X R:Type} (J:X->Option R) (body:(X->Option R)->Option R):Option R:=body J
inductive Sp where
 | co
 | sub (md:Bool)
 | clr
 | apb
 | dlx
 | dsa
 | dse
 | mk
 | ss
 | ins
 | bf
 | sb
 | mld
 | mix
 | mst
 | lz
 | by_
 | ga
 | gl
 | au
inductive Gh where
 | tr (d:Nat)
 | dp (d:Nat)
 | fd (id:Ak)
 | ug (ks:List Nat)
mutual
inductive Hn where
 | n
 | s (a b:Hn)
 | j (sh:IF) (a b:Hn)
 | i (a b:Hn)
 | l (sh:IF) (xs:List (Nat×IF)) (b:Hn)
 | r (fz:List Ak) (ow:List (Ak×Nat×Ak×Nat)) (il:Hl)
 | x
inductive Hl where
 | n
 | c (k:Nat) (h:Hn) (r:Hl)
 | j (k:Nat) (sh:IF) (h:Hn) (r:Hl)
 | q (k:Nat) (sp:Sp) (r:Hl)
 | u (k:Nat) (ks:List Nat) (ke:List Ak) (kd:Kd) (h:Hn) (r:Hl)
 | g (k:Nat) (gh:Gh) (r:Hl)
 | t (r:Hl)
end
def Hn.a:Hn->Hn
 | .s a _=>a
 | .i a _=>a
 | _=> .n
def Hn.b:Hn->Hn
 | .s _ b=>b
 | .i _ b=>b
 | _=> .n
inductive HA where
 | n
 | c (h:Hn)
 | j (sh:IF) (h:Hn)
 | q (sp:Sp)
 | u (ks:List Nat) (ke:List Ak) (kd:Kd) (h:Hn)
def L9:Hl->Nat->HA
 | .n,_=> .n
 | .c k h r,i=>match Nat.beq k i with
   | true=> .c h
   | false=>L9 r i
 | .j k sh h r,i=>match Nat.beq k i with
   | true=> .j sh h
   | false=>L9 r i
 | .q k sp r,i=>match Nat.beq k i with
   | true=> .q sp
   | false=>L9 r i
 | .u k ks ke kd h r,i=>match Nat.beq k i with
   | true=> .u ks ke kd h
   | false=>L9 r i
 | .g _ _ r,i=>L9 r i
 | .t r,i=>L9 r i
def AhN:Hl->Bool
 | .t _=>true
 | _=>false
def dgh:Gh->Ai T->M (Ai T)
 | .tr d,st=>dtr d st
 | .dp d,st=>ddp d st
 | .fd id,st=>match st.aq7 id with
   | some s=> .ret s
   | none=> .no
 | .ug ks,st=> .ret (dug ks st)
def Vh:Hl->Nat->Ai T->M (Ai T)
 | .n,_,st=> .ret st
 | .c _ _ r,i,st=>Vh r i st
 | .j _ _ _ r,i,st=>Vh r i st
 | .q _ _ r,i,st=>Vh r i st
 | .u _ _ _ _ _ r,i,st=>Vh r i st
 | .t r,i,st=>Vh r i st
 | .g k g r,i,st=>match Nat.beq k i with
   | true=> .Q_ (dgh g st) (Vh r i)
   | false=>Vh r i st
theorem AdP {H:Aw T} {st:Ai T} (hw:AJ H st) (g:Gh):Yl (dgh g st) (fun a_=>(∃ H',Nx H st H' a_)/\a_.pre=st.pre/\Wk st.toSt a_.toSt):=by cases g<;>grind [AdB,xe,Yl.ret,AdG,dgh,uA,Yl.no]
theorem GC (i:Nat): ∀ (il:Hl) {H:Aw T} {st:Ai T},AJ H st->Yl (Vh il i st) (fun a_=>(∃ H',Nx H st H' a_)/\a_.pre=st.pre/\Wk st.toSt a_.toSt)
 | .n,H,st,hw=>Yl.ret ⟨⟨H,Nx.refl hw⟩,rfl,Wk.less (Cn.refl _)⟩
 | .c _ _ r,H,st,hw=>GC i r hw
 | .j _ _ _ r,H,st,hw=>GC i r hw
 | .q _ _ r,H,st,hw=>GC i r hw
 | .u _ _ _ _ _ r,H,st,hw=>GC i r hw
 | .t r,H,st,hw=>GC i r hw
 | .g k g r,H,st,hw=>by
   unfold Vh;split
   ·refine Yl.Q_ (AdP hw g) fun s hs=>?_;obtain⟨⟨H1,n1⟩,p1,w1⟩:=hs;refine(GC i r n1.ok).mono fun s' hs'=>?_;obtain⟨⟨H2,n2⟩,p2,w2⟩:=hs';exact⟨⟨H2,n1.trans n2⟩,p2.trans p1,w1.trans w2⟩
   ·exact GC i r hw
def p6 (st:Ai T) (xs:List Operand):List Ak:=match IX st [] xs with
 | some vs=>SA vs
 | none=>[]
theorem M9: ∀ {l:List Ak} {st:Ai T} {H:Aw T},AJ H st->(FL l st).pre =st.pre
 | [],_,_,_=>rfl
 | i::r,st,H,h=>by
   unfold FL;split
   ·rename_i s hs;obtain⟨⟨H1,a⟩,_,_,b⟩:=Ai.afA h hs;rw [M9 a.ok,b]
   ·exact M9 h
theorem DW.wk {P:Program} {I:World->Prop} {o:Oper} {A B:St} {K:St->Prop} (hk:Wk A B) (h:DW P I o B K):DW P I o A K:=fun F a w G Q hI hR=>by obtain⟨G',q⟩:=hk F a w G hR;exact h F a w G' Q hI q
def p7 (st:Ai T):List (Nat×Operand)->List Ak
 | []=>[]
 | p::r=>p6 st [p.2]++p7 st r
def dbf (P:Program) (o:Oper) (st:Ai T):M (Ai T):=match o.op with
 | .buildSlice _ _ ps=>t8 P (FL (p7 st ps.toList) st) o
 | _=> .no
theorem AdQ {H:Aw T} {P:Program} {I:World->Prop} {st:Ai T} (hw:AJ H st) {o:Oper}:Yl (dbf P o st) (fun a_=>(∃ H',Nx H st H' a_)/\a_.pre=st.pre/\ ∀ K:St->Prop,K a_.toSt->DW P I o st.toSt K):=by
 unfold dbf;split
 ·rename_i ps hop;obtain⟨⟨H1,n1⟩,w1⟩:=F8 (l:=p7 st ps.toList) (Nx.refl hw);refine(YD n1.ok o).mono fun a_ h=>?_;obtain⟨⟨H2,n2⟩,h2,h3,h4⟩:=h;refine⟨⟨H2,n1.trans n2⟩,h4.trans (M9 hw),fun K hK=>DW.wk w1 fun F a w G Q hI hR=>?_⟩;obtain⟨nx,w',G',q1,q2⟩:=(Sc hR h2).out;unfold Oper.wp Oper.upon;rw [q1];rcases q2 with ⟨v,rfl,q3⟩ | ⟨rfl,q3⟩
  ·exact⟨_,G',hK,q3.less h3⟩
  ·exact⟨_,G',hK,q3.less h3⟩
 ·exact Yl.no
def dsp {P:Program} {I:World->Prop} (Γ:List (CE T P I)) (o:Oper) (st:Ai T):Sp->M (Ai T)
 | .co =>match Ck o.op,o.dst with
   | .call f xs,some d=>pW Γ (FL (p6 st xs) st) f xs d
   | _,_=> .no
 | .au => .no
 | .sub md=>Aau P o md st
 | .clr =>Adz P o st
 | .apb =>AdA P o st
 | .dlx =>dlx P o st
 | .dsa =>dsa P o st
 | .dse =>dse P o st
 | .mk =>dmk P o st
 | .ss =>Dg P o st
 | .ins =>AdH Γ o st
 | .bf =>dbf P o st
 | .sb =>dsb P o st
 | .mld =>AdI P o st
 | .mix =>AdJ P o st
 | .mst =>AdK P o st
 | .lz => .no
 | .by_ =>dby P o st
 | .ga =>dga P o st
 | .gl =>dgl Γ o st
theorem AdR {H:Aw T} {P:Program} {I:World->Prop} {Γ:List (CE T P I)} {st:Ai T} (hw:AJ H st) (o:Oper) (sp:Sp):Yl (dsp Γ o st sp) (fun a_=>(∃ H',Nx H st H' a_)/\a_.pre=st.pre/\ ∀ K:St->Prop,K a_.toSt->DW P I o st.toSt K):=by
 cases sp with
 | co=>
   unfold dsp;simp only;split
   ·rename_i f xs d hk hd;obtain⟨⟨H1,n1⟩,w1⟩:=F8 (l:=p6 st xs) (Nx.refl hw);refine(ux n1.ok hk hd).mono fun s ⟨⟨H2,n2⟩,p2,k2⟩=>⟨⟨H2,n1.trans n2⟩,p2.trans (M9 hw),fun K hK=>DW.wk w1 (k2 K hK)⟩
   ·exact Yl.no
 | au=>exact Yl.no
 | sub md=>exact(sv hw).mono fun _ ⟨a,b,c⟩=>⟨a,b,fun K hK=>c.esc hK⟩
 | clr=>exact Aav hw
 | apb=>exact Aaw hw
 | dlx=>exact(xd hw).mono fun _ ⟨a,b,c⟩=>⟨a,b,fun K hK=>c.esc hK⟩
 | dsa=>exact Adx hw
 | dse=>exact Ady hw
 | mk=>exact AdE hw
 | ss=>exact AdF hw
 | ins=>exact Aaz hw
 | bf=>exact AdQ hw
 | sb=>exact AdO hw
 | mld=>exact AaA hw
 | mix=>exact AaB hw
 | mst=>exact AaC hw
 | lz=>exact Yl.no
 | by_=>exact AdL hw
 | ga=>exact AdM hw
 | gl=>exact AdN hw
def auL (P:Program) (st:Ai T) (o:Oper):Bool:=match o.op with
 | .load t x=>match st.arg [] x with
   | some (.c (.rp id _ _ _))=>Fj id&&(DG P t).isSome
   | _=>false
 | _=>false
def auS (st:Ai T) (o:Oper):Option Sp:=match o.op with
 | .store _ x y=>match st.arg [] x,st.arg [] y with
   | some (.c (.rp id _ _ _)),some v=>match Fj id,v with
     | true, .c (.c (.h_ _))=>some .dsa
     | true, .agg _=>some .dse
     | true,_=>some .ss
     | false,_=>none
   | _,_=>none
 | _=>none
def AaE {P:Program} {I:World->Prop} (Γ:List (CE T P I)) (ops:Array Oper) (o:Oper) (st:Ai T) (sp:Sp):M (Ai T):=match o.guard,sp with
 | none, .au =>match auL P st o,auS st o with
   | true,_=>dsp Γ o st .dlx
   | false,some sp=>dsp Γ o st sp
   | false,none=>dop Γ ops o st
 | none,sp=>dsp Γ o st sp
 | some _,_=> .no
theorem sx {H:Aw T} {P:Program} {I:World->Prop} {Γ:List (CE T P I)} {ops:Array Oper} {st:Ai T} (hw:AJ H st) (o:Oper) (sp:Sp):Yl (AaE Γ ops o st sp) (wY H P I ops st o):=by have A: ∀ sp,o.guard=none->Yl (dsp Γ o st sp) (wY H P I ops st o):=fun sp hg=>(AdR hw o sp).mono fun s ⟨a,b,c⟩=>⟨a,b,fun K hK=>by unfold eW;rw [hg];exact .inl (c K hK)⟩;unfold AaE;grind [iW,Yl.no]
def Vi (P:Program) (I:World->Prop) (ops:Array Oper):List Oper->St->(St->Prop)->Prop
 | [],st,K=> ∃ s,Wk st s/\K s
 | o::rest,st,K=> ∃ s,Wk st s/\eW P I ops o s (fun a_=>Vi P I ops rest a_ K)
theorem aP {P:Program} {F:Fr} {ops:Array Oper} {Q:Exit->Act->World->Prop} {K:St->Prop} (hQ: ∀ a_ a' w' G',K a_->R F a_ a' w' G'->Q .normal a' w'):
 ∀ (l:List Oper) (st:St) (a:Act) (w:World) (G:AG),R F st a w G->Vi P F.I ops l st K->wpList P ops Q l a w
 | [],st,a,w,G,h,⟨s,hwk,hs⟩=>by obtain⟨G',h'⟩:=hwk _ _ _ _ h;exact hQ s a w G' hs h'
 | o::rest,st,a,w,G,h,⟨s,hwk,hs⟩=>by
   obtain⟨G',h'⟩:=hwk _ _ _ _ h;refine wpList_step fun K' hK'=>?_;have ag7: ∀ a' w',oV F (fun a_=>Vi P F.I ops rest a_ K) a' w'->K' a' w':=fun a' w' ⟨a_,G',q,hR⟩=>
    hK' a' w' (aP hQ rest a_ a' w' G' hR q)
   have:=UQ (Q:=Q) h' hs;split at this
   ·rename_i hw;rw [if_pos hw];grind [Oper.wp_mono]
   grind
theorem Ag.aod {P:Program} {F:Fr} {st:St} {id:Nat} {ops:Array Oper} {Q:Exit->St->Prop} (h:Vi P F.I ops ops.toList st (Q .normal)):Ag P F (.region id ops false) st Q:=
 fun _ _ G hR=>wp_region_list (aP (K:=Q .normal) (fun a_ _ _ G' q hR'=>⟨a_,G',q,hR'⟩) _ _ _ _ G hR h)
def uC (T:Bj):=(R:Type)->Code->Hn->Ai T->(Exit->Ai T->Option R)->Option R
def mw (P:Program) (I:World->Prop) (rec:uC T):Prop:= ∀ (R:Type) (c:Code) (h:Hn) (st:Ai T) (H:Aw T) (K:Exit->Ai T->Option R) (r:R),AJ H st->rec R c h st K=some r->
 ∀ (F:Fr) (Q:Exit->St->Prop),F.I=I->(∀ H' e a_,Nx H st H' a_->K e a_=some r->Q e a_.toSt)->Ag P F c st.toSt Q
def YI:DV T->Option (FuncId×Bool×List (DC T))
 | .c (.c (.fn f))=>some (f,false,[])
 | .c (.clo b f cs)=>some (f,b,cs)
 | _=>none
def P0 (b:Bool) (ahF vs:List (DV T)):List (DV T):=match b with
 | true=>ahF++vs
 | false=>vs++ahF
def uD:Option Nat->Nat
 | some d=>d
 | none=>0
def xj (P:Program) (fn:Func) (o:Oper) (st:Ai T) (R:Type) (K:Ai T->Option R) (e:Exit) (stc:Ai T):Option R:=match e with
 | .normal =>w8 P stc fn.results.toList R fun v=>match stc.back st o.dst v with
   | some s=>K s
   | none=>none
 | .ret =>w8 P stc fn.results.toList R fun v=>match stc.back st o.dst v with
   | some s=>K s
   | none=>none
 | _=>none
def p8 (P:Program) (rec:uC T) (o:Oper) (h:Hn) (st:Ai T) (R:Type) (K:Ai T->Option R):Option R:=
 match o.op,o.guard with
 | .call c,none=>match c.callee with
   | .value x=>match YI (st.ev x),IX st [] c.args.toList with
     | some (f,b,cs),some vs=>match P.funcs[f]? with
       | some fn=>match fn.body with
         | some body=>match ent P f&&Nat.ble (P0 b (cs.map DV.c) vs).length fn.ntmps with
           | true=>rec R body h (st.enter (uD o.dst) (P0 b (cs.map DV.c) vs) fn.ntmps) (xj P fn o st R K)
           | false=>none
         | none=>none
       | none=>none
     | _,_=>none
   | _=>none
 | _,_=>none
def kpt (ks:List Nat) (ke:List Ak):IF:=⟨ks,[],ke,[]⟩
def dgd (ops:Array Oper) (o:Oper) (st:Ai T):Option (List GL×Nat):=match o.guard,o.dst with
 | some (j,want),some d=>match ak st ops j want with
   | some key=>some (key,d)
   | none=>none
 | _,_=>none
def Xw (key:List GL):List Operand->Ai T->Ai T
 | [],st=>st
 | .tmp t::r,st=>match st.get t with
   | .g k v=>match Q6 k key with
     | true=>Xw key r (st.put (some t) v)
     | false=>Xw key r st
   | _=>Xw key r st
 | _::r,st=>Xw key r st
def xk (o:Oper):List Operand:=match o.op with
 | .call c=>c.args.toList
 | _=>[]
theorem Na {key:List GL} (hc:Bc key=true): ∀ {l:List Operand} {H:Aw T} {st:Ai T},AJ H st->Fm H st.nx key->(∃ H',Nx H st H' (Xw key l st))/\(Xw key l st).pre =st.pre/\ ∀ F a w G,R F st.toSt a w G->R F (Xw key l st).toSt a w G
 | [],H,st,hw,_=>⟨⟨H,Nx.refl hw⟩,rfl,fun _ _ _ _ h=>h⟩
 | .tmp t::r,H,st,hw,hk=>by
   unfold Xw;split
   ·rename_i k v hg;split
    ·rename_i hs;have hok:=Ai.afZ hw t;rw [hg]at hok;simp only [DV.ok]at hok;have hck:=OL hs hok.1 hk hc;obtain⟨H1,n1⟩:=Ai.aar hw (some t) (hok.2 hck);have hk1:Fm H1 (st.put (some t) v).nx key:=fun l hl=>GL.acA n1.ext n1.le (hk l hl);obtain⟨⟨H2,n2⟩,p2,h2⟩:=Na (l:=r) hc n1.ok hk1;refine⟨⟨H2,n1.trans n2⟩,p2.trans (AW _ _ _),fun F a w G hR=>h2 F a w G ?_⟩;rw [Ai.k_];refine hR.aeQ ?_;have hsl:Ae w G (st.toSt.get t) (a.tmps.getD t Go.undef):=hR.z_ t;rw [st.aa6 t,hg]at hsl;simp_all [DV.toV,Ae]
    ·exact Na hc hw hk
   ·exact Na hc hw hk
 | .const _::r,H,st,hw,hk=>by unfold Xw;exact Na hc hw hk
 | .func _::r,H,st,hw,hk=>by unfold Xw;exact Na hc hw hk
 | .global _::r,H,st,hw,hk=>by unfold Xw;exact Na hc hw hk
def aQ {P:Program} {I:World->Prop} (Γ:List (CE T P I)) (rec:uC T) (ops:Array Oper) (il:Hl):List Oper->Nat->Ai T->(R:Type)->(Ai T->Option R)->Option R
 | [],k,st,R,K=>Vh il k st R K
 | o::rest,k,st,R,K=>Vh il k st R fun st=>match L9 il k with
   | .n =>dop Γ ops o st R fun a_=>aQ Γ rec ops il rest (k+1) a_ R K
   | .q sp=>AaE Γ ops o st sp R fun a_=>aQ Γ rec ops il rest (k+1) a_ R K
   | .c h=>p8 P rec o h st R fun a_=>aQ Γ rec ops il rest (k+1) a_ R K
   | .j sh h=>jn (fun v:RT T sh.ts=>match sh.inst st (CB sh.ts v)with
    | some s=>aQ Γ rec ops il rest (k+1) s R K
    | none=>none) (fun j=>p8 P rec o h st R fun b=>match sh.gen st b with
    | some v=>j v
    | none=>none)
   | .u ks ke kd h=>match PU kd,dgd ops o st with
    | true,some (key,d)=>jn (fun x:PT T.den kd=>aQ Γ rec ops il rest (k+1) (((kpt ks ke).base st).put (some d) (.g key (.c (.k kd x)))) R K)
     (fun j=>if Bc key=true then p8 P rec {o with guard:=none} h (Xw key (xk o) st) R fun b=>match (kpt ks ke).gen st b,iS kd (b.get d)with
      | some _,some x=>j x
      | _,_=>none
     else j (Acl T kd))
    | _,_=>none
section
variable {H:Aw T} {P:Program} {I:World->Prop} {Γ:List (CE T P I)} {rec:uC T} {st:Ai T} {ops:Array Oper}
theorem W0 {n:Nat} {a b:List (DV T)} (h:CQ H n a) (k:CQ H n b):CQ H n (a++b):=(by grind [OI])
theorem W2 (a b:List (DV T)):Bf (a++b)=Bf a++Bf b:=by simp [OH]
theorem gf (cs:List (DC T)):Bf (cs.map DV.c)=(As cs).map V.c:=by simp_all [OH,CG,DV.toV]
theorem SH (aby:mw P I rec) (hw:AJ H st) {o:Oper} {h:Hn} {R:Type} {K:Ai T->Option R} {r:R} (hr:p8 P rec o h st R K=some r)
 {PK:St->Prop} (hK: ∀ H' a_,Nx H st H' a_->a_.pre=st.pre->K a_=some r->PK a_.toSt):o.guard=none/\DW P I o st.toSt PK:=by
 unfold p8 at hr;split at hr
 ·rename_i c hop hgd;refine⟨hgd,?_⟩;split at hr
  ·rename_i x afx;split at hr
   ·rename_i f b cs vs hf hvs;split at hr
    ·rename_i fn hfn;split at hr
     ·rename_i body apH;split at hr
      ·rename_i hm;simp only [and_eq_true,ble_eq]at hm;obtain⟨abR,hlen⟩:=hm;obtain⟨a1,a2,a3⟩:=Dj (key:=[]) hw (L4 _ _) rfl hvs;change (st.toSt.args true c.args.toList).1 at a2;change (st.toSt.args true c.args.toList).2=Bf vs at a3;have hev:=Ai.ak9 hw x;have atL:=st.abE x;have hcs:Cf cs:=by
        unfold YI at hf;split at hf
        ·simp only [injEq,Prod.mk.injEq]at hf;obtain⟨rfl,rfl,rfl⟩:=hf;simp [Cf]
        ·rename_i b' f' cs' he;simp only [injEq,Prod.mk.injEq]at hf;obtain⟨rfl,rfl,rfl⟩:=hf;grind [DV.ok,DC.ok]
        ·cases hf
       have apG:CQ H st.nx (cs.map DV.c):=OI.2 fun v hv=>by obtain⟨d,h1,rfl⟩:=mem_map.1 hv;grind [DV.ok,Da]
       have acQ:CQ H st.nx (P0 b (cs.map DV.c) vs):=by
        cases b
        ·exact W0 a1 apG
        ·exact W0 apG a1
       obtain⟨H1,n1⟩:=w7 hw (uD o.dst) fn.ntmps acQ;have hst:=pS (st:=st) (k:=uD o.dst) hlen;have hm:st.toSt.tm.length=st.m:=Bw _ _;have main: ∀ w0 av old gv,Ag P ⟨w0,av,old,I,gv⟩ body (st.toSt.enter (uD o.dst) (Bf (P0 b (cs.map DV.c) vs)) fn.ntmps) (inQ P fn.results.toList st.toSt.tm.length st.toSt.pre o.dst PK):=by
        intro w0 av old gv;rw [<-hst];refine aby _ _ _ _ _ _ _ n1.ok hr ⟨w0,av,old,I,gv⟩ _ rfl fun H' e stc hN hE=>?_;have fin:w8 P stc fn.results.toList R (fun v=>match stc.back st o.dst v with | some s=>K s | none=>none)=some r->
         (Cy P stc.toSt fn.results.toList).1/\PK (stc.toSt.back st.toSt.tm.length st.toSt.pre o.dst (Cy P stc.toSt fn.results.toList).2):=by
         intro hE;obtain⟨v,⟨v1,v2,v3⟩,hE⟩:=Aaq hN.ok fn.results.toList R _ r hE;split at hE
         ·rename_i s hs;obtain⟨⟨H2,b1⟩,b2,b3⟩:=ur (n1.trans hN) v1 hs;refine⟨v2,?_⟩;have:=hK H2 s b1 b3 hE;rw [b2]at this;rw [v3,hm];exact this
         ·cases hE
        cases e<;>simp only [inQ]<;>first
         | exact fin hE
         | grind [xj]
       cases b with
       | false=>
         have hcv:Yy st.toSt x=some (f,As cs):=by
          unfold Yy;rw [atL];unfold YI at hf;split at hf
          ·rename_i f' he;simp only [injEq,Prod.mk.injEq]at hf;obtain⟨rfl,_,rfl⟩:=hf;grind [DV.toV,DC.toC,As]
          ·rename_i b' f' cs' he;simp only [injEq,Prod.mk.injEq]at hf;obtain⟨rfl,rfl,rfl⟩:=hf;grind [DV.toV,DC.toC]
          ·cases hf
         refine DW.inline (uD o.dst) hop afx rfl (s:=(st.toSt.args true c.args.toList).1) (vs:=Bf vs) (by rw [<-a3]) a2 hcv abR hfn apH rfl (rs:=fn.results.toList) (by simp) ?_;grind [P0,W2,gf]
       | true=>
         have hcv:st.toSt.ev x= .c (.bmv f (As cs)):=by
          rw [atL];unfold YI at hf;split at hf
          ·simp at hf
          ·rename_i b' f' cs' he;simp only [injEq,Prod.mk.injEq]at hf;obtain⟨rfl,rfl,rfl⟩:=hf;grind [DV.toV,DC.toC]
          ·cases hf
         refine DW.aov (uD o.dst) hop afx rfl (s:=(st.toSt.args true c.args.toList).1) (vs:=Bf vs) (by rw [<-a3]) a2 hcv abR hfn apH rfl (rs:=fn.results.toList) (by simp) ?_;grind [P0,W2,gf]
      ·cases hr
     ·cases hr
    ·cases hr
   ·cases hr
  ·cases hr
 ·cases hr
theorem AaF {P:Program} {I:World->Prop} {ops:Array Oper} {PK:St->Prop} {A B:St} (h:Wk A B): ∀ {l:List Oper},Vi P I ops l B PK->Vi P I ops l A PK
 | [],⟨s,h1,h2⟩=>⟨s,h.trans h1,h2⟩
 | _::_,⟨s,h1,h2⟩=>⟨s,h.trans h1,h2⟩
theorem uE (sh:IF) {H:Aw T} {st:Ai T} (hw:AJ H st):Cn st.toSt (sh.base st).toSt :=by
 refine⟨?_,fun i=>?_,fun e he=>?_,fun _=>?_,⟨rfl,fun i=> .inr rfl⟩,rfl⟩
 ·show (AD _ _).length =(AD _ _).length;rw [Bw,Bw];rfl
 ·show (AD st.m (Hj sh.ks st.tm)).getD i .undef = .undef \/(AD st.m (Hj sh.ks st.tm)).getD i .undef =(AD st.m st.tm).getD i .undef;rw [LU,LU];split
  ·rw [PW];split
   ·grind
   grind [DV.toV]
  grind
 ·obtain⟨d,hd,rfl⟩:=mem_map.1 he;exact mem_map.2 ⟨d,(Hk sh.ke st.so).1.subset hd,rfl⟩
 ·exact HQ (IF.afB sh hw).ok
theorem xl {A B:St} (h:Cn A B) (d:Option Nat) (x:V):Cn (A.put d x) (B.put d x):=by
 cases d with
 | none=>exact h
 | some d=>
   refine⟨by simp [St.put,h.len],fun i=>?_,h.so,h.nd,h.gh,h.pre⟩;have hl:=h.len;have:=h.tm i;simp only [St.put,List.getD_eq_getElem?_getD,getElem?_set,hl]at this ⊢;grind
theorem xm {H:Aw T} {st:Ai T} {ops:Array Oper} {o:Oper} {key:List GL} {d:Nat} (hw:AJ H st) (h:dgd ops o st=some (key,d)): ∃ j want,o.guard=some (j,want)/\o.dst=some d/\I5 st.toSt ops j want=some (Bc key)/\Fm H st.nx key:=by
 unfold dgd at h;split at h
 ·rename_i j want d' hg hd;split at h
  ·rename_i aDH hk;simp only [injEq,Prod.mk.injEq]at h;obtain⟨rfl,rfl⟩:=h;grind [OW]
  ·cases h
 ·cases h
theorem sy (aby:mw P I rec) (il:Hl): ∀ (l:List Oper) (k:Nat) (st:Ai T) (H:Aw T),AJ H st-> ∀ (R:Type) (K:Ai T->Option R) (r:R),aQ Γ rec ops il l k st R K=some r->
 ∀ PK:St->Prop,(∀ H' a_,Nx H st H' a_->a_.pre=st.pre->K a_=some r->PK a_.toSt)->Vi P I ops l st.toSt PK
 | [],k,st,H,hw,R,K,r,hr,PK,hK=>by simp only [aQ]at hr;obtain⟨s,⟨⟨H1,n1⟩,p1,w1⟩,hr⟩:=GC k il hw R _ r hr;exact⟨s.toSt,w1,hK H1 s n1 p1 hr⟩
 | o::rest,k,st0,H,hw,R,K,r,hr,PK,hK=>by
   simp only [aQ]at hr;obtain⟨st,⟨⟨H0,n0⟩,p0,w0⟩,hr⟩:=GC k il hw R _ r hr;refine⟨st.toSt,w0,?_⟩;replace hK: ∀ H' a_,Nx H0 st H' a_->a_.pre=st.pre->K a_=some r->PK a_.toSt:=fun H' s n p q=>hK H' s (n0.trans n) (p.trans p0) q;replace hw:=n0.ok;have nxt: ∀ (H1:Aw T) (a_:Ai T),Nx H0 st H1 a_->a_.pre=st.pre->aQ Γ rec ops il rest (k+1) a_ R K=some r->Vi P I ops rest a_.toSt PK:=fun H1 a_ n1 p1 q=>
    sy aby il rest (k+1) a_ H1 n1.ok R K r q PK fun H' s n p q=>hK H' s (n1.trans n) (p.trans p1) q
   split at hr
   ·obtain⟨a_,⟨⟨H1,n1⟩,p1,w1⟩,hr⟩:=iW hw o R _ r hr;grind
   ·rename_i sp _;obtain⟨a_,⟨⟨H1,n1⟩,p1,w1⟩,hr⟩:=sx hw o sp R _ r hr;grind
   ·rename_i h _;obtain⟨g1,g2⟩:=SH (PK:=fun s=>Vi P I ops rest s PK) aby hw hr fun H' s n p q=>nxt H' s n p q;simp only [eW,g1];exact .inl g2
   ·rename_i sh h _;unfold jn at hr;obtain⟨g1,g2⟩:=SH (PK:=fun s=> ∃ s',Wk s s'/\Vi P I ops rest s' PK) aby hw hr fun H' s n p q=>by
     split at q
     ·rename_i v hg;dsimp only at q;split at q
      ·rename_i s' hi;obtain⟨H2,n2⟩:=IF.aeq hw (Es sh.ts v) hi;have hp:s'.pre=st.pre:=by
        unfold IF.inst at hi;split at hi
        ·rename_i s1 us h1;split at hi
         ·rename_i s2 us2 h2;injection hi with hi;subst hi;obtain⟨⟨Ha,na⟩,nb,_,_,np,_⟩:=K5 (sh.afB hw) (Es sh.ts v) h1;obtain⟨_,_,_,mp,_⟩:=MY na nb h2;rw [mp,np];rfl
         ·cases hi
        ·cases hi
       grind [IF.ad4]
      ·cases q
     ·cases q
    simp only [eW,g1];refine .inl ?_;intro F a w G Q hI hR;refine Oper.wp_mono (fun _ _ ⟨_,G',⟨s',hwk,hp⟩,hR'⟩=>?_) (g2 F a w G Q hI hR);obtain⟨G'',q⟩:=hwk _ _ _ _ hR';grind
   ·rename_i ks ke kd h _;split at hr
    ·rename_i key d hfk hdg;unfold jn at hr;dsimp only at hr;obtain⟨j,want,e1,e2,e3,e4⟩:=xm hw hdg;have main: ∀ x:PT T.den kd,aQ Γ rec ops il rest (k+1) (((kpt ks ke).base st).put (some d) (.g key (.c (.k kd x)))) R K=some r->Vi P I ops rest (((kpt ks ke).base st).put (some d) (.g key (.c (.k kd x)))).toSt PK:=fun x q=>by have nb:=IF.afB (kpt ks ke) hw;obtain⟨H2,n2⟩:=L3 (st:=(kpt ks ke).base st) nb.ok e4 (some d) (v:= .c (.k kd x)) (by grind [DV.ok,DC.ok]);exact nxt H2 _ (nb.trans n2) (by rw [AW];rfl) q
     simp only [eW,e1,e3];refine .inl ⟨fun hc=> .inl ?_,fun hc=>?_⟩
     ·rw [if_pos hc]at hr;obtain⟨⟨Hu,nu⟩,_,hu⟩:=Na (l:=xk o) hc hw e4;obtain⟨_,g2⟩:=SH (PK:=fun s=> ∃ s',Wk s s'/\Vi P I ops rest s' PK) aby nu.ok hr fun H' b n' _ q=>by
       have n:=nu.trans n';split at q
       ·rename_i v0 x hg hx;refine⟨_,?_,main x q⟩;have hwk:=IF.ad4 hw n hg (s1:=(kpt ks ke).base st) rfl;intro F a w G hR;obtain⟨G',q'⟩:=hwk F a w G hR;refine⟨G',?_⟩;rw [Ai.k_];refine q'.aeQ ?_;have hsl:Ae w G (b.toSt.get d) (a.tmps.getD d Go.undef):=hR.z_ d;rw [b.aa6 d,rZ hx]at hsl;have hf:(Bz T.enc kd x).flat =true:=by cases kd<;>first | rfl | cases hfk
        simp_all [DV.toV,DC.toC,Ae,AS]
       ·cases q
      intro F a w G Q hI hR;have g3:o.wp P a w (oV F fun s=> ∃ s',Wk s s'/\Vi P I ops rest s' PK) Q:=g2 F a w G Q hI (hu F a w G hR);grind [Oper.wp_mono,AaF]
     ·rw [if_neg (by rw [hc];simp)]at hr;grind [xl,uE,Ai.k_,DV.toV]
    ·cases hr
end
end Go.PL
namespace Go.PL
open Go Go.RowKit
variable {T:Bj}
def fnl:DV T->Bool
 | .c (.k k _)=>PU k
 | .c (.c (.h_ _))=>true
 | _=>false
theorem AdT {v:DV T} (h:fnl v=true) {w:World} {G:AG} {a b:Value} (ha:Ae w G v.toV a) (hb:Ae w G v.toV b):a=b:=by
 unfold fnl at h;split at h
 ·rename_i k x;have hf:(Bz T.enc k x).flat =true:=by cases k<;>first | rfl | cases h
  grind [DV.toV,DC.toC,Ae,AS]
 all_goals grind [DV.toV,DC.toC,Ae,Ah]
structure Qq where
 i:Nat
 d:Nat
 x:Operand
 id:Ak
 off:Nat
 ag:Bool
 n:Nat
 te:Nat
 ts:Nat
def Xx (P:Program) (ops:Array Oper) (lz:List Nat) (H:Aw T) (nx:Nat) (q:Qq):Prop:=
 ∃ o t cs,ops[q.i]? =some o/\o.op= .load t q.x/\o.dst=some q.d/\KP P t=some (q.ag,q.n)/\q.te<nx/\q.ts<nx/\(H.e q.te).id =q.id/\(H.e q.te).x = .box cs/\
   FH q.ag q.off q.n cs.length=true/\H.v q.ts=CZ q.ag q.off q.n cs/\(fnl (H.v q.ts)=true\/q.i∈lz)
theorem Xx.nx {P:Program} {ops:Array Oper} {lz:List Nat} {H H':Aw T} {st a_:Ai T} {q:Qq} (h:Xx P ops lz H st.nx q) (hn:Nx H st H' a_):Xx P ops lz H' a_.nx q:=by obtain⟨o,t,cs,h1,h2,h3,h4,h5,h6,h7,h8,h9,h10,h11⟩:=h;have e1:=(hn.ext q.te h5).2;have e2:=(hn.ext q.ts h6).1;exact⟨o,t,cs,h1,h2,h3,h4,lt_of_lt_of_le h5 hn.le,lt_of_lt_of_le h6 hn.le,by grind,by grind,h9,by grind,by grind⟩
def uF (st:Ai T) (q:Qq):Bool:=match st.ev q.x,G6 st.so q.id,K2 st q.id with
 | .c (.c (.ptr id off)),some e,some _=>Bi id q.id&&(Nat.beq off q.off&&(Nat.beq e.tag q.te&&(Nat.beq (Zv st.tm q.d) (q.ts+1)&&Nat.blt q.d st.m)))
 | _,_,_=>false
theorem W3 {st:Ai T} {id:Ak} {cs:List (DC T)} (h:K2 st id=some cs): ∃ e,G6 st.so id=some e/\e.x= .box cs:=by grind [K2,Ai.look]
section
variable {H:Aw T} {P:Program} {st:Ai T}
theorem gg {t:TypeId} {ag:Bool} {n:Nat} {id:Ak} {off:Nat} {cs:List (DC T)} (hw:AJ H st) (ht:KP P t=some (ag,n)) (hb:K2 st id=some cs) (ho:FH ag off n cs.length=true):
 (CZ ag off n cs).ok H st.nx/\(DM P t st.toSt (.c (.ptr id off))).1/\(DM P t st.toSt (.c (.ptr id off))).2=(CZ (T:=T) ag off n cs).toV :=by
 have hd:=ZH (P:=P) (t:=t) (key:=[]) (v:=(.c (.c (.ptr id off)):DV T)) hw (by grind [DV.ok,DC.ok]) (DV T) some (CZ ag off n cs) (by simp only [lL,ht,hb,ho];rfl);obtain⟨v,h1,h2⟩:=hd;injection h2 with h2;subst h2;have:=h1 rfl;grind [DV.toV,DC.toC]
theorem YJ (hw:AJ H st) {ops:Array Oper} {lz:List Nat} {q:Qq} (hq:Xx P ops lz H st.nx q) (h:uF st q=true) {o:Oper} (ho:ops[q.i]? =some o) {F:Fr} {a:Act} {w:World} {G:AG} (hR:R F st.toSt a w G):
 o.dst=some q.d/\ ∃ v,(q.i∈lz\/v=a.tmps.getD q.d Go.undef)/\Ae w G (st.toSt.tm.getD q.d .undef) v/\ ∀ w',CX w w'->(execOp a.eval o).run P w'= .ok (.value v) w':=by
 obtain⟨o',t,cs,h1,h2,h3,h4,h5,h6,h7,h8,h9,h10,h11⟩:=hq;rw [h1]at ho;injection ho with ho;subst ho;unfold uF at h;split at h
 ·rename_i id off e cs' hev hlk hbx;simp only [and_eq_true,beq_eq,AP,blt_eq]at h;obtain⟨k1,k2,k3,k4,k5⟩:=h;subst k1 k2;obtain⟨e',l1,l2⟩:=W3 hbx;rw [hlk]at l1;injection l1 with l1;subst l1;have hm:=(CT hlk).1;have he:=(hw.so e hm).2.1;rw [k3]at he;rw [he,l2]at h8;injection h8 with h8;subst h8;obtain⟨m1,m2,m3⟩:=gg hw h4 hbx h9;have ags:=st.abE q.x;rw [hev]at ags;have aqZ:st.toSt.arg true q.x=(True, .c (.ptr q.id q.off)):=by grind [St.arg,DV.toV,DC.toC]
  have hs:(DU P st.toSt true o'.op).1:=by rw [h2];show (rd P st.toSt true (.load t q.x)).1;simp_all [rd,Q_]
  obtain⟨v,q1,q2⟩:=FX hR rfl hs;have e2:(DU P st.toSt true o'.op).2=(CZ (T:=T) q.ag q.off q.n cs').toV :=by rw [h2];show (rd P st.toSt true (.load t q.x)).2=_;grind [rd,Q_]
  rw [e2]at q1;obtain⟨_,hv⟩:=Zw hw.tm k4;have atJ:st.get q.d=CZ q.ag q.off q.n cs':=by unfold Ai.get;rw [show Nat.blt q.d st.m=true by simpa using k5];grind
  have hsl:=hR.z_ q.d;have hg:st.toSt.tm.getD q.d .undef =(st.get q.d).toV :=st.aa6 q.d;grind [AdT]
 ·cases h
theorem xn (hw:AJ H st) {ops:Array Oper} {lz:List Nat} {q:Qq} (hq:Xx P ops lz H st.nx q) (h:uF st q=true) {o:Oper} (ho:ops[q.i]? =some o) (hc:DP o=1) {F:Fr} {a:Act} {w:World} {G:AG} (hR:R F st.toSt a w G):uf P (q.i∈lz) o a w:=by obtain⟨h1,v,h2,h3,h4⟩:=YJ hw hq h ho hR;intro d hd;rw [h1]at hd;injection hd with hd;subst hd;exact⟨v,h2,(by grind)⟩
theorem xo {I:World->Prop} (hw:AJ H st) {o:Oper} (hk:Ck o.op= .rd) {v:DV T} (hv:Rd H P st [] o.op v):Yld P I o st.toSt (st.put o.dst v).toSt :=fun F a w G hI hR=>by obtain⟨h1,h2,h3⟩:=hv rfl;obtain⟨u,q1,q2⟩:=FX hR rfl h2;change Ae w G (DU P st.toSt true o.op).2 u at q1;rw [show (DU P st.toSt true o.op).2=v.toV from h3]at q1;exact⟨u,G,q2,by rw [Ai.k_];exact hR.put q1⟩
end
def AdU (P:Program) (z:Bool) (o:Oper) (i:Nat) (st:Ai T):Option (Ai T×Qq):=match o.op,o.dst with
 | .load t x,some d=>match KP P t,st.ev x with
   | some (ag,n), .c (.c (.ptr id off))=>match K2 st id,G6 st.so id with
     | some cs,some e=>match FH ag off n cs.length&&(fnl (CZ ag off n cs)||z)with
       | true=>some (st.put (some d) (CZ ag off n cs),⟨i,d,x,id,off,ag,n,e.tag,st.nx⟩)
       | false=>none
     | _,_=>none
   | _,_=>none
 | _,_=>none
theorem AaG {H:Aw T} {P:Program} {I:World->Prop} {st a_:Ai T} (hw:AJ H st) {ops:Array Oper} {lz:List Nat} {z:Bool} {o:Oper} {i:Nat} {q:Qq} (hz:z=true->i∈lz) (hi:ops[i]? =some o) (h:AdU P z o i st=some (a_,q)):
 ∃ H',Nx H st H' a_/\a_.pre=st.pre/\Yld P I o st.toSt a_.toSt/\Xx P ops lz H' a_.nx q/\q.i=i:=by
 unfold AdU at h;split at h
 ·rename_i t x d hop hd;split at h
  ·rename_i ag n id off ht hev;split at h
   ·rename_i cs e hbx hlk;split at h
    ·rename_i hb;simp only [and_eq_true,or_eq_true]at hb;injection h with h;injection h with h1 h2;subst h1 h2;obtain⟨m1,m2,m3⟩:=gg hw ht hbx hb.1;have he:=C2.afi H st.nx (CZ (T:=T) ag off n cs);obtain⟨e',l1,l2⟩:=W3 hbx;rw [hlk]at l1;injection l1 with l1;subst l1;obtain⟨k1,k2,k3⟩:=hw.so e (CT hlk).1;have hnx:Nx H st (H.afi st.nx (CZ ag off n cs)) (st.put (some d) (CZ ag off n cs)):=by
      obtain⟨H',hn⟩:=Ai.aar hw (some d) m1;refine⟨he,by simp [Ai.put],?_,?_,?_,hw.nd⟩
      ·intro s t' w' hm;simp only [Ai.put,mem_cons,Prod.mk.injEq]at hm ⊢;rcases hm with ⟨rfl,rfl,rfl⟩ | hm
       ·exact⟨Nat.lt_succ_self _,by simp [Aw.afi],DV.acA he (le_succ _) m1⟩
       ·exact BW he (le_succ _) hw.tm s t' w' hm
      ·exact fun f hf=>BW he (le_succ _) (hw.gh f hf)
      ·exact Fo he (le_succ _) hw.so
     refine⟨_,hnx,AW _ _ _,?_,⟨o,t,cs,hi,hop,hd,ht,lt_of_lt_of_le k1 hnx.le,by simp [Ai.put],?_,?_,hb.1,by simp [Aw.afi],?_⟩,rfl⟩
     ·have hrd:Rd H P st [] o.op (CZ ag off n cs):=fun _=>by
       have ags:=st.abE x;rw [hev]at ags;have aqZ:st.toSt.arg (Bc []) x=(True, .c (.ptr id off)):=by grind [St.arg,DV.toV,DC.toC]
       rw [hop];refine⟨m1,?_,?_⟩
       ·show (rd P st.toSt (Bc []) (.load t x)).1;simp_all [rd,Q_]
       ·show (rd P st.toSt (Bc []) (.load t x)).2=_;grind [rd,Q_]
      have:=xo (I:=I) hw (by rw [hop];rfl) hrd;grind
     ·rw [(hnx.ext e.tag k1).2,k2];exact(CT hlk).2.1
     all_goals grind [Aw.afi]
    ·cases h
   ·cases h
  ·cases h
 ·cases h
end Go.PL
set_option linter.all false
namespace Go.PL
open Go Go.RowKit
def Fr.afy (F:Fr) (b:Nat):Fr:=⟨F.w0,fun x=>F.av x/\x ≠ b,fun x=>F.old x\/x=b,F.I,F.gv⟩
def xp (F:Fr) (old:Nat->Prop):Prop:= ∀ w':World,F.w0.heap.size<=w'.heap.size->(∀ x,x<F.w0.heap.size-> ¬old x->w'.heap[x]? =F.w0.heap[x]?)->F.I w'
section
variable {F:Fr} {st:St} {a:Act} {w:World} {G:AG}
theorem R.unnamed (h:R F st a w G) {b:Nat} (hav:F.av b) (j:Ak):G.p_ j ≠ some b:=fun q=>by
 rcases h.new j b q with k | k
 ·have:=h.aaS b hav;omega
 ·exact h.aaj b k hav
theorem R.avI (h:R F st a w G) {b:Nat} (hav:F.av b) (hinv:xp F (fun x=>F.old x\/x=b)) (e:Ax) (nv:Option Value) (hp:e.pu=true->Ap e.cs=true)
 (he:Be w (Cb (F.afy b) G e.id (some b) nv) (e.kill e.id)):R (F.afy b) (st.new e) a w (Cb (F.afy b) G e.id (some b) nv):=by
 have hun:=h.unnamed hav;have hwr:G.wr b:=(h.wr b).2 (.inl hav);have hbw:b<w.heap.size:=lt_of_lt_of_le (h.aaS b hav) h.x_;have hk:Cl G (Cb (F.afy b) G e.id (some b) nv) w w:=by
  refine⟨le_refl _,fun _ _ _=>rfl,fun x hx hw=>?_,fun _ _ _ _=>Cg.same rfl⟩;simp only [Cb,Fr.afy]at hw;rcases hw with hw | ⟨i,hi⟩
  ·exact(h.wr x).2 (.inl hw.1)
  ·split at hi
   ·grind
   ·exact(h.wr x).2 (.inr ⟨i,hi⟩)
 refine {
  dfr:=h.dfr
  size:=by simp [St.new,St.kill,h.size]
  z_:=fun i=>?_
  I_:=?_
  store:=fun e' he'=>?_
  deep:=fun e' he'=>?_
  B_:=fun e' he'=>?_
  nodup:=?_
  inj:=fun i j x hi hj=>?_
  lt:=fun i x hi=>?_
  new:=fun i x hi=>?_
  wr:=fun _=>Iff.rfl
  aaS:=fun x hx=>h.aaS x hx.1
  inv:=hinv
  aaj:=fun x hx hy=>?_
  os:=h.os,tape:=h.tape,output:=h.output,x_:=h.x_
  ext:=fun x hx ho=>h.ext x hx fun q=>ho (.inl q)}
 ·simp only [St.new,St.kill];rw [FS (by simp [Fa,V.s_])];exact Ae.mono hk _ _ (by grind [Dq,UB]) (UE (h.z_ i))
 ·simp only [St.new,St.kill];exact Aq.mono hk _ _ (by grind [Dq,QV]) (QU h.I_)
 ·simp only [St.new,St.kill]at he';rcases Jo he' with ⟨rfl,_⟩ | he'
  ·exact he
  ·simp only [mem_map,mem_filter,and_eq_true]at he';obtain⟨d,⟨hd,hne,_⟩,rfl⟩:=he';have adq:d.id ≠ e.id:=by grind
   exact CM hk (Dq (F:=F.afy b) (fun i hi he'=>by subst he';rw [kO (h.B_ d hd)]at hi;cases hi)) (by grind [Cb,Ax.P_]) (fun _ _=>rfl) (eQ (h.store d hd))
 ·simp only [St.new,St.kill]at he';rcases Jo he' with ⟨rfl,h1,h2⟩ | he'
  ·exact BA.an5 h1 h2
  ·simp only [mem_map,mem_filter,and_eq_true]at he';obtain⟨d,⟨hd,hne,hmd⟩,rfl⟩:=he';have adq:d.id ≠ e.id:=by grind
   have hmk:Fj (d.kill e.id).id =true-> ∀ k,B9 k (d.kill e.id).id ≠ e.id:=by grind [Ax.P_,kJ]
   exact BA.mono hk (by grind [Cb,Ax.P_]) (by grind [Cb]) (fun _ _=>rfl) (fun _ _ _ _=>rfl) (h.deep d hd).kill
 ·simp only [St.new,St.kill]at he';rcases Jo he' with ⟨rfl,_⟩ | he'
  ·exact PJ hp
  ·simp only [mem_map,mem_filter]at he';obtain⟨d,⟨hd,hne⟩,rfl⟩:=he';exact PJ (h.B_ d hd)
 ·have afT:List.Sublist (((st.new e).so.map (·.id))) (e.id::((st.so.filter (fun d=>d.id != e.id&& !(Dh e.id&&Fj d.id))).map (·.id))):=by
   simp only [St.new,St.kill,We];split
   all_goals simp_all [Function.comp_def,Ax.P_]
  refine List.Sublist.nodup afT (nodup_cons.2 ⟨by grind,?_⟩);exact List.Sublist.nodup (by grind [filter_sublist]) h.nodup
 ·simp only [Cb]at hi hj;split at hi<;>split at hj
  ·simp_all
  ·grind
  ·grind
  ·exact h.inj i j x hi hj
 ·simp only [Cb]at hi;split at hi
  ·grind
  ·exact h.lt i x hi
 ·simp only [Cb]at hi;split at hi
  ·injection hi with hi;exact .inr (.inr hi.symm)
  ·exact(h.new i x hi).imp (fun q=>q) .inl
 ·rcases hx with q | q
  ·exact h.aaj x q hy.1
  ·exact hy.2 q
def Fr.take (F:Fr) (w1:World) (b:Nat) (G:AG):Fr:=⟨w1,fun x=>F.av x\/x=b,fun x=> ∃ i,G.p_ i=some x,F.I,F.gv⟩
theorem R.taken (h:R F st a w G) {w1:World} (ho:Ov w w1) (hs:CX w w1) {b:Nat} (hb:b=w.heap.size) (hlt:b<w1.heap.size) (hinv:xp (F.take w1 b G) (F.take w1 b G).old) {d:Nat} {v:Value} (hd:st.get d= .undef):
 ∃ G1,R (F.take w1 b G) st (a.put (some d) v) w1 G1:=by
 have hk:Cl G (⟨G.p_,G.own,fun x=>(F.av x\/x=b)\/ ∃ i,G.p_ i=some x⟩:AG) w w1:=by
  refine⟨hs.size,fun x hx _=>hs.block x hx,fun x hx hw=>?_,fun i x h1 _=>Cg.same (hs.block x (h.lt i x h1))⟩;rcases hw with (hw | hw) | hw
  ·exact(h.wr x).2 (.inl hw)
  ·omega
  ·exact(h.wr x).2 (.inr hw)
 have ag: ∀ S:Ak->Prop,KO S G (⟨G.p_,G.own,fun x=>(F.av x\/x=b)\/ ∃ i,G.p_ i=some x⟩:AG):=fun _ _ _=>⟨rfl,rfl⟩;refine⟨⟨G.p_,G.own,fun x=>(F.av x\/x=b)\/ ∃ i,G.p_ i=some x⟩,{
  dfr:=h.dfr
  size:=by simp [Act.put,h.size]
  z_:=fun i=>?_
  I_:=Aq.mono hk _ _ (ag _) h.I_
  store:=fun e he=>CM hk (ag _) ⟨rfl,rfl⟩ (fun x hx=>hs.block x (h.lt _ x hx)) (h.store e he)
  deep:=fun e he=>BA.mono hk ⟨rfl,rfl⟩ (by grind) (fun x hx=>hs.block x (h.lt _ x hx)) (fun _ _ x hx=>hs.block x (h.lt _ x hx)) (h.deep e he)
  B_:=h.B_,nodup:=h.nodup,inj:=h.inj
  lt:=fun i x hi=>lt_of_lt_of_le (h.lt i x hi) hs.size
  new:=fun i x hi=> .inr ⟨i,hi⟩
  wr:=fun _=>Iff.rfl
  aaS:=fun x hx=>?_
  inv:=hinv
  aaj:=fun x ⟨i,hi⟩ hx=>?_
  os:=rfl,tape:=rfl,output:=rfl,x_:=le_refl _
  ext:=fun _ _ _=>rfl}⟩
 ·by_cases hi:d=i
  ·subst hi;have:st.tm.getD d .undef = .undef :=hd;grind [Ae]
  ·have e:(a.put (some d) v).tmps.getD i Go.undef=a.tmps.getD i Go.undef:=by simp_all [Act.put]
   rw [e];exact Ae.mono hk _ _ (ag _) (h.z_ i)
 ·rcases hx with hx | hx
  ·exact lt_of_lt_of_le (h.aaS x hx) (le_trans h.x_ hs.size)
  ·show x<w1.heap.size;omega
 ·rcases hx with hx | hx
  ·exact h.unnamed hx i hi
  ·have:=h.lt i x hi;omega
end
structure K7 (F0 F:Fr) (D:List (Nat×Nat)):Prop where
 alI:F.I=F0.I
 gv:F.gv=F0.gv
 av: ∀ x,F.av x↔F0.av x\/ ∃ i,(i,x)∈D
 size:F0.w0.heap.size<=F.w0.heap.size
 kept: ∀ x,x<F0.w0.heap.size-> ¬F0.old x-> ¬F.old x/\F.w0.heap[x]? =F0.w0.heap[x]?
 old: ∀ x,F.old x->F0.w0.heap.size<=x\/F0.old x
 new: ∀ p∈D,F0.w0.heap.size<=p.2
 os:F.w0.os=F0.w0.os
 tape:F.w0.tape=F0.w0.tape
 output:F.w0.output=F0.w0.output
theorem K7.start (F:Fr):K7 F F []:=⟨rfl,rfl,fun x=>by simp,le_refl _,(by grind),fun _ h=> .inr h,(by grind),rfl,rfl,rfl⟩
def xq (F:Fr):Prop:=xp F F.old
section
variable {F0 F:Fr} {D:List (Nat×Nat)} {st:St} {a:Act} {w:World} {G:AG}
theorem K7.back (t:K7 F0 F []) (hi:xq F0) (hd: ∀ x,F0.old x-> ¬F0.av x) (hl: ∀ x,F0.av x->x<F0.w0.heap.size) (h:R F st a w G):R F0 st a w G where
 dfr:=h.dfr
 size:=h.size
 z_:=h.z_
 I_:=by rw [<-t.gv];exact h.I_
 store:=h.store
 deep:=h.deep
 B_:=h.B_
 nodup:=h.nodup
 inj:=h.inj
 lt:=h.lt
 new:=fun i x hx=>by
  rcases h.new i x hx with q | q
  ·exact .inl (le_trans t.size q)
  ·exact t.old x q
 wr:=fun x=>by rw [h.wr,t.av];simp
 aaS:=hl
 inv:=hi
 aaj:=hd
 os:=h.os.trans t.os
 tape:=h.tape.trans t.tape
 output:=h.output.trans t.output
 x_:=le_trans t.size h.x_
 ext:=fun x hx ho=>by obtain⟨k1,k2⟩:=t.kept x hx ho;exact(h.ext x (by grind) k1).trans k2
theorem K7.atb (t:K7 F0 F D) (hi:xq F0) {old:Nat->Prop} (ho: ∀ x,x<F0.w0.heap.size-> ¬F0.old x-> ¬old x):xp F old:=fun w' hs hw=>by rw [t.alI];exact hi w' (le_trans t.size hs) fun x hx hx2=>(hw x (lt_of_lt_of_le hx t.size) (ho x hx hx2)).trans (t.kept x hx hx2).2
end
end Go.PL
set_option linter.all false
namespace Go.PL
open Go Go.RowKit
variable {T:Bj}
def jm:C->Bool
 | .int .. =>true
 | .bool _=>true
 | .str _=>true
 | .acg =>true
 | .aas =>true
 | .L_ =>true
 | .fn _=>true
 | .sl 0 []=>true
 | _=>false
theorem xr {c:C} (h:jm c=true) {w w':World} {G G':AG} {v:Value} (hr:Ah w G c v):Ah w' G' c v:=by
 unfold jm at h;split at h
 all_goals simp_all [Ah]
theorem my {w w':World} {G G':AG}: ∀ {cs:List C} {vs:List Value},cs.all jm=true->Al w G cs vs->Al w' G' cs vs
 | [],[],_,_=>by simp [Al]
 | [],_::_,_,h=>by simp [Al]at h
 | _::_,[],_,h=>by simp [Al]at h
 | c::cs,v::vs,h,hr=>by simp only [all_cons,and_eq_true]at h;simp only [Al]at hr ⊢;exact⟨xr h.1 hr.1,my h.2 hr.2⟩
theorem xt {c:C} (h:jm c=true) (i:Ak):c.s_ i=false:=by
 unfold jm at h;split at h
 all_goals first
  | rfl
  | grind
theorem mz: ∀ {cs:List C},cs.all jm=true-> ∀ i,BS i cs=false
 | [],_,_=>rfl
 | c::cs,h,i=>by simp only [all_cons,and_eq_true]at h;simp only [BS,xt h.1,mz h.2,Bool.or_self]
def xu (o:Oper):Bool:=match o.guard,o.dst,o.op with
 | none,some _, .alloc _=>true
 | none,some _, .buildSlice _ _ ps=>ps.toList.all fun p=>BJ p.2
 | _,_,_=>false
def Vj:DX T->List C
 | .box cs=>As cs
 | .row E l=>l.flatMap (T.enc E)
 | .deep .. =>[]
def jq:DX T->Nat->Value
 | .row _ l,b=> .slice (some ⟨b,0,none⟩) l.length l.length
 | _,b=> .pointer (some ⟨b,0,none⟩)
def aR:DX T->Ak->C
 | .row ..,id=> .h_ id
 | _,id=> .ptr id 0
def zj (P:Program) (st:Ai T) (o:Oper):Option (DX T):=match o.op with
 | .alloc t=>match ZL P t with
   | some cs=>match (As cs).all jm with
     | true=>some (.box cs)
     | false=>none
   | none=>none
 | .buildSlice t len ps=>match Fd P t,J9 st [] ps.toList with
   | some (E,n,_),some vs=>match Rc P E with
     | some z=>match WJ (fun i=>some (i*n,n)) ((List.replicate len z).flatMap id) (vs.map fun x=>(x.1,UZ x.2))with
       | some cs=>match Lv E len cs with
         | some l=>match (Nat.beq n (T.sz E)&&(Nat.beq z.length n&&(Nat.blt 0 n&&(Nat.ble (len*n) (2 ^ 24)&&Nat.beq cs.length (len*n)))))&&(As cs).all jm with
           | true=>some (.row E l)
           | false=>none
         | none=>none
       | none=>none
     | none=>none
   | _,_=>none
 | _=>none
theorem SI {st a_:Ai T}: ∀ {ps:List (Nat×Operand)},(ps.all fun p=>BJ p.2)=true->J9 st [] ps=J9 a_ [] ps
 | [],_=>rfl
 | (i,x)::r,h=>by
   simp only [all_cons,and_eq_true]at h;have ih:=SI (st:=st) (a_:=a_) h.2;have hx:st.arg [] x=a_.arg [] x:=by
    cases x with
    | const v=>rfl
    | _=>cases h.1
   simp only [J9,ih,hx]
theorem Vk {P:Program} {st a_:Ai T} {o:Oper} (h:xu o=true):zj P st o=zj P a_ o:=by grind [xu,zj,SI]
structure AdV (x:DX T) (arr:Array Value) (Tt:TypeId):Prop where
 ind:(Vj x).all jm=true
 rel: ∀ w G,Al w G (Vj x) arr.toList
 row: ∀ E l,x= .row E l->Tt=E/\arr.size=l.length*T.sz E/\l.length<=maxLen
 nd: ∀ E n l h,x ≠ .deep E n l h
 ok:x.ok
theorem AaH {P:Program} {H:Aw T} {st:Ai T} {o:Oper} {x:DX T} (hw:AJ H st) (h:zj P st o=some x) {F:Fr} {a:Act} {w:World} {G:AG} (hR:R F st.toSt a w G):
 ∃ arr Tt,(execOp a.eval o).run P w= .ok (.value (jq x w.heap.size)) (w.alloc (.cells arr Tt))/\AdV x arr Tt:=by
 unfold zj at h;split at h
 ·rename_i t hop;split at h
  ·rename_i cs hz;split at h
   ·rename_i hi;injection h with h;subst h;obtain⟨z1,z2⟩:=OM hz;obtain⟨i,z,hi1,hzv,hc⟩:=QW z1;refine⟨z.cells,t,?_,hi,fun w G=>KW hc,(by grind),(by grind),z2⟩;simp_all [execOp,Instr.alloc,adN,newVar,newRow,jq]
   ·cases h
  ·cases h
 ·rename_i t len ps hop;split at h
  ·rename_i E n by' vs abP hp;split at h
   ·rename_i z hz;split at h
    ·rename_i cs hf;split at h
     ·rename_i l hl;split at h
      ·rename_i hg;injection h with h;subst h;simp only [and_eq_true,beq_eq,blt_eq,ble_eq]at hg;obtain⟨⟨g1,g2,g3,g4,g5⟩,g6⟩:=hg;subst g1;obtain⟨p1,p2,p3⟩:=Ih (key:=[]) hw (fun _ hl=>by cases hl) rfl hp;obtain⟨z1,z2⟩:=Ik hz;obtain⟨f1,_⟩:=Ka hf;rw [Rf z (by omega),Z0]at f1;change (st.toSt.parts true ps.toList).1 at p2;change (st.toSt.parts true ps.toList).2=wP vs at p3;rw [<-p3]at f1;obtain⟨hlen,r,hr⟩:=Ei hl;have hrn:r=[]:=by have:=congrArg List.length hr;grind [AM,BP,AV,List.length_eq_zero_iff]
       subst hrn;rw [List.append_nil]at hr;obtain⟨abo,q1,q2,q3,q4,q5⟩:=JP hR abP z1 f1 p2 (by rw [AM];exact g2) g3 g4;refine⟨abo,E,?_,by grind [Vj],(by grind [Vj,my]),fun E' l' q=>?_,(by grind),trivial⟩
       ·simp_all [execOp,jq]
       grind
      ·cases h
     ·cases h
    ·cases h
   ·cases h
  ·cases h
 ·cases h
theorem uG {H:Aw T} {st s:Ai T} {x:DX T} {arr:Array Value} {Tt:TypeId} (hw:AJ H st) (hx:AdV x arr Tt) {F:Fr} {a:Act} {w:World} {G:AG} (hR:R F st.toSt a w G) {b:Nat} (hav:F.av b) (hinv:xp F (fun y=>F.old y\/y=b))
 (hh:w.heap[b]? =some (.cells arr Tt (0,0))) {d:Nat} (hv:a.tmps.getD d Go.undef=jq x b) (hs:st.new (d::st.pre) x=some s): ∃ G',R (F.afy b) (s.put (some d) (.c (.c (aR x (d::st.pre))))).toSt a w G':=by
 obtain⟨_,ag8,_⟩:=Ai.acB hw hx.ok hs;have IN:(⟨d::st.pre,0,x⟩:DE T).toE.cs =Vj x:=by
  unfold DE.toE;cases x with
  | box cs=>rfl
  | row E l=>rfl
  | deep E n l h=>exact absurd rfl (hx.nd E n l h)
 have hk:((⟨d::st.pre,0,x⟩:DE T).toE.kill (d::st.pre))=(⟨d::st.pre,0,x⟩:DE T).toE :=Ax.afq (by
  simp only [Ax.fre,or_eq_true,not_eq_true'];right;rw [IN];exact mz hx.ind _)
 have hr0: ∀ G',An w G' (Vj x) b 0:=fun G'=>An.aaA (hx.rel w G') (BO hh (rest:=[]) (by grind));have key: ∃ nv:Option Value,(∀ G',Be w (Cb (F.afy b) G' (d::st.pre) (some b) nv) (⟨d::st.pre,0,x⟩:DE T).toE)/\(∀ G',Ah w (Cb (F.afy b) G' (d::st.pre) (some b) nv) (aR x (d::st.pre)) (jq x b)):=by
  cases x with
  | box cs=>
    refine⟨none,fun G'=>kP rfl ⟨b,Tt,arr,by simp [Cb,DE.toE],hh,?_,hr0 _⟩,fun G'=>?_⟩
    ·have:(As cs).length =arr.toList.length:=(hx.rel w G).length;show arr.size=(As cs).length;grind
    ·simp only [aR,jq,Ah];exact⟨b,by simp [Cb],rfl⟩
  | row E l=>
    obtain⟨e1,e2,e3⟩:=hx.row E l rfl;refine⟨some (.slice (some ⟨b,0,none⟩) l.length l.length),fun G'=>JL rfl ⟨?_,_,by simp [Cb,DE.toE], .inr ⟨b,l.length,arr,rfl,by simp [Cb,DE.toE],by grind,le_refl _,e3,e2,hr0 _⟩⟩,fun G'=>?_⟩
    ·show (l.flatMap (T.enc E)).length =_;grind [BP,AV]
    ·simp only [aR,jq,Ah];exact⟨by simp [Cb],rfl⟩
  | deep E n l h=>exact absurd rfl (hx.nd E n l h)
 obtain⟨nv,k1,k2⟩:=key;have hid:(⟨d::st.pre,0,x⟩:DE T).toE.id =d::st.pre:=DE.toE_id _;have ahx:=hR.avI hav hinv (⟨d::st.pre,0,x⟩:DE T).toE nv (fun hp=>by
  cases x with
  | box cs=>cases hp
  | row E l=>exact AX _ (fun y=>by have:=Dk (T:=T) (.s E) y;grind [Ep,V.pure]) _
  | deep E n l h=>exact absurd rfl (hx.nd E n l h)) (by grind)
 rw [hid]at ahx;refine⟨Cb (F.afy b) G (d::st.pre) (some b) nv,?_⟩;rw [Ai.k_];refine(ahx.less ag8).aeQ ?_;grind [DV.toV,DC.toC,Ae]
end Go.PL
set_option linter.all false
namespace Go.PL
open Go Go.RowKit
variable {T:Bj}
def prI (acc:List (List Nat)) (d:List Nat) (i:Nat):List Nat:=(List.range i).filter fun j=>J0 d j||d.any fun k=>J0 (acc.getD k []) j
def AfK (ops:Array Oper):Nat->Nat->List (List Nat)->List (List Nat)
 | 0,_,acc=>acc
 | n+1,i,acc=>AfK ops n (i+1) (acc++[prI acc (lG ops i) i])
def AfL (ops:Array Oper):List (List Nat):=AfK ops ops.size 0 []
def SJ (ops:Array Oper) (v:List Bool) (i:Nat):Bool:= !bv v i&&(lG ops i).all (bv v)
theorem mA {ops:Array Oper} {v:List Bool} (hv:v.length=ops.size):Region.ready .any ops v.toArray=(List.range ops.size).filter (SJ ops v):=by
 unfold Region.ready;refine List.filter_congr fun i hi=>?_;have hi:i<ops.size:=by grind
 have ho:ops[i]? =some ops[i]:=(by grind);unfold SJ lG;rw [ho];have e1:v.toArray.getD i true=bv v i:=by simp_all [bv]
 rw [e1];congr 1;simp only [Option.map_some,Option.getD_some];rw [Bool.eq_iff_iff];simp only [Array.all_eq_true_iff_forall_mem,or_eq_true,not_eq_true',all_eq_true,mem_map,mem_filter,forall_exists_index,and_imp,forall_apply_eq_imp_iff₂];constructor
 ·intro h x e he hb hx;subst hx;have:=h e (by simpa using he);simp_all [bv]
 ·intro h e he;cases hb:Region.binds .any e
  ·grind
  ·right;have:=h e.on e (by simpa using he) hb rfl;simp_all [bv]
def Acr (ops:Array Oper) (v:List Bool):Option Nat:=(List.range ops.size).find? fun i=>SJ ops v i&& !Nat.beq (OT ops i) 0
def p9 (ops:Array Oper) (i:Nat):Bool:=match ops[i]? with
 | some o=>xu o
 | none=>false
def xv (ops:Array Oper) (v:List Bool):Option Nat:=match (List.range ops.size).filter fun i=>SJ ops v i&& !p9 ops i with
 | [i]=>some i
 | []=>(List.range ops.size).find? fun i=>SJ ops v i&&p9 ops i
 | _=>none
def AdW (ops:Array Oper) (pr:List (List Nat)) (v:List Bool) (i:Nat):Bool:=(List.range ops.size).all fun k=>bv v k||(Nat.beq k i||(p9 ops k||(pr.getD k []).any fun j=> !bv v j&&(!p9 ops j||Nat.beq j i)))
def isU:DV T->Bool
 | .u =>true
 | _=>false
def unM (ops:Array Oper) (v:List Bool) (st:Ai T):Bool:=(List.range ops.size).all fun k=>bv v k||match ops[k]? with
 | some o=> !xu o||match o.dst with
   | some d=>isU (st.get d)&&Nat.blt d st.m
   | none=>false
 | none=>true
def aS (ops:Array Oper):Bool:=(List.range ops.size).all fun i=>(List.range ops.size).all fun j=>Nat.beq i j||match ops[i]?,ops[j]? with
 | some o,some o'=>match o.dst,o'.dst with
   | some d,some e=> !Nat.beq d e
   | _,_=>true
 | _,_=>true
def aT (P:Program) (ops:Array Oper) (st:Ai T):Bool:=ops.toList.all fun o=> !xu o||(zj P st o).isSome
def uH:List Oper->Ai T->Ai T
 | [],st=>st
 | o::r,st=>match xu o with
   | true=>uH r (st.put o.dst .u)
   | false=>uH r st
def xw (ops:Array Oper) (pr:List (List Nat)) (v:List Bool) (p:Nat):Bool:=(List.range ops.size).any fun k=>bv v k&&(Nat.beq (OT ops k) 0&&J0 (pr.getD k []) p)
def aU (ops:Array Oper) (pr:List (List Nat)) (v:List Bool) (pd:List Qq) (st:Ai T):Bool:=
 (List.range ops.size).all fun p=> !bv v p||(!Nat.beq (OT ops p) 1||(xw ops pr v p||pd.any fun q=>Nat.beq q.i p&&uF st q))
def W4 (ops:Array Oper) (pr:List (List Nat)) (lz:List Nat) (v:List Bool) (pd:List Qq) (st:Ai T):Bool:=
 lz.all fun p=> !bv v p||(xw ops pr v p||pd.any fun q=>Nat.beq q.i p&&uF st q)
def isN:HA->Bool
 | .n =>true
 | _=>false
def xy (o:Oper):Bool:=match o.op,o.guard,o.dst with
 | .buildSlice ..,none,some _=>true
 | _,_,_=>false
def xz (o:Oper) (st:Ai T):Bool:=match o.dst with
 | some d=>Nat.blt d st.m
 | none=>false
def AfM (o:Oper):Bool:=match o.op with
 | .load .. =>true
 | _=>false
def AfN:HA->Option Bool
 | .q (.sub md)=>some md
 | _=>none
def AfO (P:Program) (st:Ai T) (o:Oper):HA->Bool
 | .q .dlx =>true
 | .q .au =>auL P st o
 | _=>false
def opR {P:Program} {I:World->Prop} (Γ:List (CE T P I)) (rec:uC T) (ops:Array Oper) (o:Oper) (st:Ai T) (h:HA) (R:Type) (K:Ai T->Option R):Option R:=match h with
 | .n =>dop Γ ops o st R K
 | .q sp=>AaE Γ ops o st sp R K
 | .c h=>p8 P rec o h st R K
 | .j sh h=>jn (fun v:RT T sh.ts=>match sh.inst st (CB sh.ts v)with
  | some s=>K s
  | none=>none) (fun j=>p8 P rec o h st R fun b=>match sh.gen st b with
  | some v=>j v
  | none=>none)
 | .u .. =>none
def Ma {P:Program} {I:World->Prop} (Γ:List (CE T P I)) (rec:uC T) (ops:Array Oper) (pr:List (List Nat)) (lz:List Nat) (il:Hl):Nat->List Bool->List Qq->Ai T->(R:Type)->(Ai T->Option R)->Option R
 | 0,v,pd,st,R,K=>match W4 ops pr lz v pd st with
   | false=>none
   | true=>match (List.range ops.size).all (bv v)with
     | true=>Vh il ops.size st R K
     | false=>none
 | n+1,v,pd,st,R,K=>match W4 ops pr lz v pd st with
   | false=>none
   | true=>match Acr ops v with
     | some i=>match ops[i]? with
       | some o=>match Nat.beq (DP o) 2,xz o st with
         | true,true=>LW P [] st o.op R fun u=>Ma Γ rec ops pr lz il n (v.set i true) pd (st.put o.dst u) R K
         | false,true=>match AfN (L9 il i),AfO P st o (L9 il i),AfM o with
           | some md,_,_=>Aau P o md st R fun a_=>Ma Γ rec ops pr lz il n (v.set i true) pd a_ R K
           | none,true,_=>dlx P o st R fun a_=>Ma Γ rec ops pr lz il n (v.set i true) pd a_ R K
           | none,false,false=>none
           | none,false,true=>match AdU P (J0 lz i) o i st with
             | some (a_,q)=>Ma Γ rec ops pr lz il n (v.set i true) (q::pd) a_ R K
             | none=>LW P [] st o.op R fun u=>Ma Γ rec ops pr lz il n (v.set i true) pd (st.put o.dst u) R K
         | _,_=>none
       | none=>none
     | none=>match xv ops v with
       | some i=>match ops[i]?,AdW ops pr v i&&unM ops v st with
         | some o,true=>match DP o,xu o with
           | 0,true=>match o.dst,zj P st o with
             | some d,some x=>match st.new (d::st.pre) x with
               | some s=>Ma Γ rec ops pr lz il n (v.set i true) pd (s.put (some d) (.c (.c (aR x (d::st.pre))))) R K
               | none=>none
             | _,_=>none
           | 0,false=>match xy o&&isN (L9 il i)with
             | true=>t8 P st o R fun a_=>Ma Γ rec ops pr lz il n (v.set i true) pd a_ R K
             | false=>opR Γ rec ops o st (L9 il i) R fun a_=>match aU ops pr (v.set i true) pd a_ with
               | true=>Ma Γ rec ops pr lz il n (v.set i true) pd a_ R K
               | false=>none
           | _,_=>none
         | _,_=>none
       | none=>none
theorem xA {α:Type} {p:α->Bool} {l:List α} {x:α} (h:l.find? p=some x):x∈l/\p x=true:=(by grind)
theorem GD (v:List Bool) (k:Nat):v.toArray.getD k false=bv v k:=by simp_all [bv]
theorem Dl {v:List Bool} {i k:Nat} (hi:i<v.length):bv (v.set i true) k=(k==i||bv v k):=by simp only [bv,List.getD_eq_getElem?_getD,getElem?_set];grind
theorem O2 {o:Oper} (h:xu o=true):o.guard=none/\(∃ d,o.dst=some d)/\DP o=0:=by grind [xu,DP,OS]
theorem K7.take {F0 F:Fr} {D:List (Nat×Nat)} {st:St} {a:Act} {w w1:World} {G:AG} (t:K7 F0 F D) (h:R F st a w G) (ho:Ov w w1) (hs:CX w w1) (i:Nat):K7 F0 (F.take w1 w.heap.size G) ((i,w.heap.size)::D):=by
 have h1:=le_trans t.size h.x_;refine⟨t.alI,t.gv,fun x=>?_,le_trans h1 hs.size,fun x hx hx2=>?_,fun x ⟨j,hj⟩=>?_,fun p hp=>?_,ho.os.trans (h.os.trans t.os),ho.tape.trans (h.tape.trans t.tape),ho.output.trans (h.output.trans t.output)⟩
 ·show F.av x\/x=w.heap.size↔_;rw [t.av];grind
 ·obtain⟨k1,k2⟩:=t.kept x hx hx2;refine⟨fun⟨j,hj⟩=>?_,?_⟩
  ·rcases h.new j x hj with q | q
   all_goals grind
  ·show w1.heap[x]? =_;rw [hs.block x (by omega),h.ext x (by grind) k1,k2]
 ·rcases h.new j x hj with q | q
  ·exact .inl (le_trans t.size q)
  ·exact t.old x q
 ·rcases mem_cons.1 hp with rfl | hp
  ·exact h1
  ·exact t.new p hp
theorem jr {α β:Type} {f:α->β}: ∀ {l:List α} {x y:α},(l.map f).Nodup ->x∈l->y∈l->f x=f y->x=y
 | a::l,x,y,h,hx,hy,e=>by
   rw [map_cons]at h;obtain⟨h1,h2⟩:=nodup_cons.1 h;rcases mem_cons.1 hx with q1 | q1<;>rcases mem_cons.1 hy with q2 | q2
   ·rw [q1,q2]
   ·subst q1;exact absurd (mem_map.2 ⟨y,q2,e.symm⟩) h1
   ·subst q2;exact absurd (mem_map.2 ⟨x,q1,e⟩) h1
   ·exact jr h2 q1 q2 e
theorem K7.afy {F0 F:Fr} {D:List (Nat×Nat)} {i b:Nat} (t:K7 F0 F D) (hi:(i,b)∈D) (n1:(D.map (·.1)).Nodup) (n2:(D.map (·.2)).Nodup) (hl: ∀ x,F0.av x->x<F0.w0.heap.size):K7 F0 (F.afy b) (D.filter fun p=>p.1 != i):=by
 have hb:=t.new _ hi;simp only at hb;refine⟨t.alI,t.gv,fun x=>?_,t.size,fun x hx hx2=>?_,fun x hx=>?_,fun p hp=>t.new p (by grind),t.os,t.tape,t.output⟩
 ·show F.av x/\x ≠ b↔_;rw [t.av];constructor
  ·rintro⟨q | ⟨j,q⟩,hne⟩
   ·exact .inl q
   ·refine .inr ⟨j,mem_filter.2 ⟨q,?_⟩⟩;have:j ≠ i:=fun e=>by subst e;have:=jr n1 q hi rfl;grind
    grind
  ·rintro(q | ⟨j,q⟩)
   ·grind
   ·obtain⟨q1,q2⟩:=mem_filter.1 q;refine⟨.inr ⟨j,q1⟩,fun e=>?_⟩;subst e;have:=jr n2 q1 hi rfl;grind
 ·obtain⟨k1,k2⟩:=t.kept x hx hx2;refine⟨fun q=>?_,k2⟩;rcases q with q | q
  all_goals grind
 ·rcases hx with q | q
  ·exact t.old x q
  grind
def xB (P:Program) (ops:Array Oper) (st:Ai T) (F:Fr) (a:Act) (p:Nat×Nat):Prop:=
 ∃ o d x arr Tt,ops[p.1]? =some o/\xu o=true/\o.dst=some d/\zj P st o=some x/\AdV x arr Tt/\F.w0.heap[p.2]? =some (.cells arr Tt (0,0))/\ ¬F.old p.2/\a.tmps.getD d Go.undef=jq x p.2
theorem xB.move {P:Program} {ops:Array Oper} {st a_:Ai T} {F:Fr} {a a':Act} {p:Nat×Nat} (h:xB P ops st F a p) (ha: ∀ d o,ops[p.1]? =some o->o.dst=some d->a'.tmps.getD d Go.undef=a.tmps.getD d Go.undef):xB P ops a_ F a' p:=by obtain⟨o,d,x,arr,Tt,h1,h2,h3,h4,h5,h6,h7,h8⟩:=h;exact⟨o,d,x,arr,Tt,h1,h2,h3,by rw [Vk h2 (a_:=st)];exact h4,h5,h6,h7,by rw [ha d o h1 h3];exact h8⟩
theorem AfP {P:Program} {ops:Array Oper} {st:Ai T} {F:Fr} {a:Act} {p:Nat×Nat} (h:xB P ops st F a p) {o:Oper} (ho:ops[p.1]? =some o):DP o=0:=by obtain⟨o',_,_,_,_,h1,h2,_⟩:=h;simp_all [O2]
theorem Ho {ops:Array Oper} (h:aS ops=true) {i j:Nat} {o o':Oper} {d e:Nat} (hi:ops[i]? =some o) (hj:ops[j]? =some o') (hne:i ≠ j) (hd:o.dst=some d) (he:o'.dst=some e):d ≠ e:=by
 simp only [aS,all_eq_true,mem_range]at h;have:=h i (Array.getElem?_eq_some_iff.1 hi).1 j (Array.getElem?_eq_some_iff.1 hj).1;simp only [hi,hj,hd,he,or_eq_true,beq_eq,not_eq_true']at this;rcases this with q | q
 ·grind
 ·intro e';simp_all
def unv (n:Nat) (v:List Bool):List Nat:=(List.range n).filter fun k=> !bv v k
theorem xC: ∀ {l l':List Nat},l.Nodup->(∀ x∈l,x∈l')->l.length<=l'.length
 | [],_,_,_=>zero_le _
 | a::l,l',h,hs=>by obtain⟨h1,h2⟩:=nodup_cons.1 h;have ha:=hs a (by simp);have:=xC (l:=l) (l':=l'.erase a) h2 (by grind);grind
theorem AdX (n:Nat) (v:List Bool):(unv n v).Nodup :=List.Sublist.nodup filter_sublist List.nodup_range
theorem YK {n:Nat} {v:List Bool} {i:Nat} (hv:v.length=n) (hi:i<n) (hu:bv v i=false):(unv n (v.set i true)).length +1<=(unv n v).length :=by
 have:=xC (l:=i::unv n (v.set i true)) (l':=unv n v) (nodup_cons.2 ⟨fun h=>?_,AdX _ _⟩) fun x hx=>?_
 ·grind
 ·have:=(mem_filter.1 h).2;grind [Dl]
 ·rcases mem_cons.1 hx with rfl | hx
  ·exact mem_filter.2 ⟨by simpa using hi,by rw [hu];rfl⟩
  ·obtain⟨h1,h2⟩:=mem_filter.1 hx;rw [Dl (by omega)]at h2;exact mem_filter.2 ⟨h1,by simp only [not_eq_true',Bool.or_eq_false_iff]at h2 ⊢;exact h2.2⟩
section
variable {H:Aw T} {P:Program} {I:World->Prop} {Γ:List (CE T P I)} {rec:uC T} {st:Ai T} {ops:Array Oper} {pr:List (List Nat)} {lz:List Nat} {F0:Fr}
theorem AdY (aby:mw P I rec) (hw:AJ H st) {o:Oper} {h:HA} {R':Type} {K:Ai T->Option R'} {r:R'} (hr:opR Γ rec ops o st h R' K=some r) {PK:St->Prop}
 (hK: ∀ H' a_,Nx H st H' a_->K a_=some r->PK a_.toSt):eW P I ops o st.toSt (fun s=> ∃ s',Wk s s'/\PK s'):=by
 have refl: ∀ s:St,Wk s s:=fun s=>Wk.less (Cn.refl s);unfold opR at hr;split at hr
 ·obtain⟨a_,⟨⟨H1,n1⟩,_,w1⟩,hr⟩:=iW hw o R' _ r hr;grind
 ·obtain⟨a_,⟨⟨H1,n1⟩,_,w1⟩,hr⟩:=sx hw o _ R' _ r hr;grind
 ·obtain⟨g1,g2⟩:=SH (PK:=fun s=> ∃ s',Wk s s'/\PK s') aby hw hr fun H' s n _ q=>⟨_,refl _,hK H' s n q⟩;simp only [eW,g1];exact .inl g2
 ·rename_i sh h;unfold jn at hr;obtain⟨g1,g2⟩:=SH (PK:=fun s=> ∃ s',Wk s s'/\PK s') aby hw hr fun H' s n _ q=>by
   split at q
   ·rename_i v hg;dsimp only at q;split at q
    ·rename_i s' hi;obtain⟨H2,n2⟩:=IF.aeq hw (Es sh.ts v) hi;grind [IF.ad4]
    ·cases q
   ·cases q
  simp only [eW,g1];exact .inl g2
 ·cases hr
theorem AfQ {o:Oper} (hb:xy o=true) {s:St} (h1:(ef P st.toSt o).1) (h2:Cn (ef P st.toSt o).2 s) {F:Fr} {a:Act} {w:World} {G:AG} (hR:R F st.toSt a w G) {Q:Exit->Act->World->Prop}:
 o.wp P a w (fun a' w'=>CX w w'/\ ∃ G',R F s a' w' G') Q:=by
 unfold xy at hb;split at hb
 ·rename_i t len ps d hop hg hd;obtain⟨dst,op,ty,pos,aft,gd⟩:=o;simp only at hop hg hd;subst hop hg hd;have h1':(By P st.toSt d t len ps.toList).1:=h1;have h2':Cn (By P st.toSt d t len ps.toList).2 s:=h2;obtain⟨r,w',G',q1,q2⟩:=KY hR h1';have:=U2 hR h1' q1;unfold Oper.wp;have A_:(execOp a.eval ⟨some d, .buildSlice t len ps,ty,pos,aft,none⟩).run P w= .ok (.value r) w':=by simp [execOp,q1]
  rw [A_];exact⟨this,G',q2.less h2'⟩
 ·cases hb
structure Fy (P:Program) (ops:Array Oper) (pr:List (List Nat)) (F0:Fr) (v:List Bool) (st:Ai T) (m:Nat) (L:List Bool) (D:List (Nat×Nat)) (F:Fr) (a:Act) (w:World) (G:AG):Prop where
 hv:v.length=ops.size
 hL:L.length=ops.size
 hb: ∀ k,bv L k=(bv v k||D.any fun p=>p.1==k)
 hdc:wV pr L.toArray
 n1:(D.map (·.1)).Nodup
 n2:(D.map (·.2)).Nodup
 hD: ∀ p∈D,p.1<ops.size/\bv v p.1=false/\xB P ops st F a p
 ht:K7 F0 F D
 hc:(unv ops.size v).length <=m+D.length
 hR:R F st.toSt a w G
structure Fx (P:Program) (ops:Array Oper) (pr:List (List Nat)) (lz:List Nat) (F0:Fr) (v:List Bool) (st:Ai T) (m:Nat) (L:List Bool) (D:List (Nat×Nat)) (F:Fr) (a:Act) (w:World) (G:AG):Prop extends Fy P ops pr F0 v st m L D F a w G where
 hS:dk P ops pr lz L.toArray a w
variable {v L:List Bool} {m:Nat} {D:List (Nat×Nat)} {F:Fr} {a:Act} {w:World} {G:AG}
theorem P1 {D:List (Nat×Nat)} {k:Nat}:(D.any fun p=>p.1==k)=true↔ ∃ b,(k,b)∈D:=by grind
theorem Fx.pos (h:Fx P ops pr lz F0 v st m L D F a w G) {i:Nat} (hi:i<ops.size) (hu:bv v i=false) (hn: ∀ b,(i,b)∉D):1<=m:=by
 have:=xC (l:=i::D.map (·.1)) (l':=unv ops.size v) (nodup_cons.2 ⟨fun q=>?_,h.n1⟩) fun x hx=>?_
 ·have h2:=h.hc;grind
 ·grind
 ·rcases mem_cons.1 hx with rfl | hx
  ·exact mem_filter.2 ⟨by simpa using hi,by rw [hu];rfl⟩
  ·obtain⟨p,hp,rfl⟩:=mem_map.1 hx;obtain⟨h1,h2,_⟩:=h.hD p hp;exact mem_filter.2 ⟨by simpa using h1,by rw [h2];rfl⟩
theorem Fx.rdy (h:Fx P ops pr lz F0 v st m L D F a w G) {i:Nat} (hi:i<ops.size) (hr:SJ ops v i=true) (hn: ∀ b,(i,b)∉D):i∈Region.ready .any ops L.toArray:=by rw [mA h.hL];simp only [SJ,and_eq_true,not_eq_true',all_eq_true]at hr;refine mem_filter.2 ⟨by grind,?_⟩;simp only [SJ,and_eq_true,not_eq_true',all_eq_true];refine⟨?_,fun x hx=>by rw [h.hb,hr.2 x hx];rfl⟩;rw [h.hb,hr.1,Bool.false_or];grind
theorem Fx.afl (hp:iL ops pr=true) (h:Fx P ops pr lz F0 v st m L D F a w G) {j:Nat} (hj:j∈Region.ready .any ops L.toArray):j<ops.size/\bv L j=false/\bv v j=false/\(∀ b,(j,b)∉D)/\ ∀ x∈pr.getD j [],bv L x=true:=by
 obtain⟨h1,h2,h3⟩:=F4 hp h.hdc hj;have h4:bv L j=false:=by grind [GD]
 have h5:=h4;rw [h.hb,Bool.or_eq_false_iff]at h5;refine⟨h1,h4,h5.1,fun b hb=>?_,fun x hx=>by rw [<-GD];exact h3 x hx⟩;have:=P1.2 ⟨b,hb⟩;rw [h5.2]at this;cases this
theorem R.amx {st:St} (h:R F st a w G) {d:Nat} {u:Value} (hu:Ae w G (st.tm.getD d .undef) u):R F st (a.put (some d) u) w G:=by
 have:=h.put (d:=some d) hu;have e:st.put (some d) (st.tm.getD d .undef)=st:=by simp only [St.put];congr 1;apply List.ext_getElem?;grind
 grind
theorem Fy.up1 (hst:U1 ops pr=true) (hdn:aS ops=true) (hlz:Qo ops lz=true) (hw:AJ H st) {pd:List Qq} (hpd: ∀ q∈pd,Xx P ops lz H st.nx q) (hck:W4 ops pr lz v pd st=true) (h:Fy P ops pr F0 v st m L D F a w G) {a':Act} (hu:Up1 P ops pr lz L.toArray w a a'):Fy P ops pr F0 v st m L D F a' w G:=by
 obtain⟨p,o,d,u,h1,h2,h3,h4,h5,h6,rfl⟩:=hu;obtain⟨k1,k2⟩:=Ju hlz h1 h2;have hcN:OT ops p=1:=by grind [OT]
 have nmk: ∀ q,(p,q)∉D:=fun q hq=>by obtain⟨_,_,o',_,_,_,_,r1,r2,_⟩:=h.hD _ hq;simp_all [O2]
 have hvp:bv v p=true:=by rw [GD,h.hb,or_eq_true]at h4;grind
 simp only [W4,all_eq_true,or_eq_true,not_eq_true']at hck;rcases hck p h1 with q | q | q
 ·grind
 ·exfalso;refine h5 ?_;simp only [xw,any_eq_true,mem_range,and_eq_true,beq_eq,Fl]at q;obtain⟨k,_,k1,k2,k3⟩:=q;exact⟨k,by rw [GD,h.hb,k1];rfl,k2,k3⟩
 ·simp only [any_eq_true,and_eq_true,beq_eq]at q;obtain⟨q0,hq0,e0,hok⟩:=q;subst e0;obtain⟨r1,x,_,r2,r3⟩:=YJ hw (hpd q0 hq0) hok h2 h.hR;rw [h3]at r1;injection r1 with r1;subst r1;rw [r3 w (CX.refl w)]at h6;have hxu:x=u:=by grind
  subst hxu;exact {h with
   hD:=fun p' hp'=>by obtain⟨s1,s2,s3⟩:=h.hD p' hp';have hne:p'.1 ≠ q0.i:=(by grind);refine⟨s1,s2,s3.move fun d' o' ho' hd'=>?_⟩;exact En (by grind)
   hR:=h.hR.amx r2}
theorem Fx.ups (hst:U1 ops pr=true) (hdn:aS ops=true) (hlz:Qo ops lz=true) (hw:AJ H st) {pd:List Qq} (hpd: ∀ q∈pd,Xx P ops lz H st.nx q) (hck:W4 ops pr lz v pd st=true) (h:Fx P ops pr lz F0 v st m L D F a w G) {a':Act} (hu:Ups P ops pr lz L.toArray w a a'):Fx P ops pr lz F0 v st m L D F a' w G:=by
 induction hu with
 | refl=>exact h
 | step _ h1 ih=>exact {toFy:=ih.toFy.up1 hst hdn hlz hw hpd hck h1,hS:=ih.hS.up1 hst hlz h1}
theorem aV {il:Hl} {pd:List Qq} {R':Type} {K:Ai T->Option R'} {r:R'}: ∀ {n:Nat},Ma Γ rec ops pr lz il n v pd st R' K=some r->W4 ops pr lz v pd st=true
 | 0,h=>by grind [Ma]
 | n+1,h=>by grind [Ma]
theorem B3 (L:List Bool) (i:Nat):L.toArray.setIfInBounds i true=(L.set i true).toArray :=by simp
theorem Fx.make (hst:U1 ops pr=true) (hdn:aS ops=true) (hlz:Qo ops lz=true) {pd:List Qq} (hpd: ∀ q∈pd,Xx P ops lz H st.nx q) (hck:W4 ops pr lz v pd st=true) (hi0:xq F0) (hw:AJ H st) (hma:aT P ops st=true) (hun:unM ops v st=true) (h:Fx P ops pr lz F0 v st (m+1) L D F a w G) {j:Nat} (hj:j∈Region.ready .any ops L.toArray) (hm:p9 ops j=true) {Q:Exit->Act->World->Prop}
 (hK: ∀ L D F a w' G,Fx P ops pr lz F0 v st m L D F a w' G->(j,w.heap.size)∈D->D4 P ops Q pr lz m L.toArray a w'):
 wpOp P ops Q j (fun a' w'=> ∀ a'',Ups P ops pr lz (L.toArray.setIfInBounds j true) w' a' a''->dk P ops pr lz (L.toArray.setIfInBounds j true) a'' w'/\D4 P ops Q pr lz m (L.toArray.setIfInBounds j true) a'' w') a w:=by
 obtain⟨hns,hp,ad0⟩:=Hh hst;obtain⟨hjl,hju,hjv,hjD,_⟩:=h.afl hp hj;unfold p9 at hm;have hoj:ops[j]? =some ops[j]:=(by grind);generalize ops[j]=o at hoj;rw [hoj]at hm;simp only at hm;obtain⟨hg,⟨d,hd⟩,hc⟩:=O2 hm;obtain⟨x,hx⟩: ∃ x,zj P st o=some x:=by simp only [aT,all_eq_true,or_eq_true,not_eq_true']at hma;grind [Option.isSome_iff_exists]
 have hud:st.get d= .u /\d<st.m:=by simp only [unM,all_eq_true,mem_range,or_eq_true]at hun;have:=hun j hjl;rw [hjv,hoj]at this;simp only [hm,hd,Bool.not_true,Bool.false_or,and_eq_true,blt_eq]at this;grind [isU]
 obtain⟨arr,Tt,A_,hxo⟩:=AaH hw hx h.hR;have hsz:a.tmps.size=st.m:=by rw [h.hR.size];exact Bw _ _
 refine pN hst hlz hoj hc h.hdc hj h.hS (K:=fun a' w'=>CX w w'/\ ∃ D' F' G',Fy P ops pr F0 v st m (L.set j true) D' F' a' w' G'/\(j,w.heap.size)∈D') ?_ ?_ ?_ ?_
 ·rw [FY hg,if_pos rfl];refine AN A_ ?_;rw [hd];refine⟨JK _ _,?_⟩;have hsm:=JK w (.cells arr Tt);have t':=h.ht.take h.hR (KV w (.cells arr Tt)) hsm j;obtain⟨G1,hR1⟩:=h.hR.taken (KV w (.cells arr Tt)) hsm (b:=w.heap.size) rfl (by simp [JJ]) (t'.atb hi0 fun x hx hx2=>(t'.kept x hx hx2).1) (d:=d) (v:=jq x w.heap.size) (by rw [st.aa6,hud.1];simp only [DV.toV]);refine⟨(j,w.heap.size)::D,_,G1,⟨h.hv,by simpa using h.hL,fun k=>?_,by rw [<-B3];exact h.hdc.set hp hj,?_,?_,fun p hp'=>?_,t',?_,hR1⟩,List.mem_cons_self⟩
  ·rw [Dl (by rw [h.hL];exact hjl),h.hb,List.any_cons];grind
  ·rw [map_cons];refine nodup_cons.2 ⟨fun q=>?_,h.n1⟩;grind
  ·rw [map_cons];refine nodup_cons.2 ⟨fun q=>?_,h.n2⟩;obtain⟨p,hp',e⟩:=mem_map.1 q;have e:p.2=w.heap.size:=e;have hav:F.av p.2:=(h.ht.av _).2 (.inr ⟨p.1,hp'⟩);have:=h.hR.aaS _ hav;have:=h.hR.x_;omega
  ·rcases mem_cons.1 hp' with rfl | hp'
   ·refine⟨hjl,hjv,o,d,x,arr,Tt,hoj,hm,hd,hx,hxo,heap_alloc_new w _,fun⟨i,hi⟩=>?_,?_⟩
    ·have:=h.hR.lt i _ hi;omega
    simp_all [Act.put]
   ·obtain⟨q1,q2,o',d',x',abo,Tt',r1,r2,r3,r4,r5,r6,r7,r8⟩:=h.hD p hp';have hav:F.av p.2:=(h.ht.av _).2 (.inr ⟨p.1,hp'⟩);refine⟨q1,q2,o',d',x',abo,Tt',r1,r2,r3,r4,r5,?_,fun⟨i,hi⟩=>h.hR.unnamed hav i hi,?_⟩
    ·show (w.alloc (.cells arr Tt)).heap[p.2]? =_;have hlt:=h.hR.aaS _ hav;rw [hsm.block p.2 (lt_of_lt_of_le hlt h.hR.x_),h.hR.ext p.2 hlt r7];exact r6
    ·have hne:p.1 ≠ j:=(by grind);rw [<-r8];exact En (x:=some d) (fun e he=>by injection he with he;subst he;exact Ho hdn hoj r1 (Ne.symm hne) hd r3)
  ·have:=h.hc;grind
 ·intro a' w' ⟨hsm,_⟩ p op hop hcp hpl hpf he1 he2 hW d hd;obtain⟨u,m1,m2⟩:=hW d hd;refine⟨u,by grind,fun w1 hw1=>?_⟩;have h1:=hw1.resolve_left (by rw [hcp];omega);rw [he1 w1 (hsm.trans h1)];exact m2 w1 (.inr (hsm.trans h1))
 ·intro a' w' a'' ⟨hsm,D',F',G',hf,hj'⟩ hu;rw [B3]at hu;exact⟨hsm,D',F',G',hf.up1 hst hdn hlz hw hpd hck hu,hj'⟩
 ·intro a' w' ⟨hsm,D',F',G',hf,hj'⟩ _ hS';rw [B3]at hS' ⊢;exact hK _ D' F' a' w' G' {toFy:=hf,hS:=hS'} hj'
theorem Fx.aun (hi0:xq F0) (hl0: ∀ x,F0.av x->x<F0.w0.heap.size) (hw:AJ H st) (h:Fx P ops pr lz F0 v st m L D F a w G) {i b d:Nat} {o:Oper} {x:DX T} {s:Ai T} (hi:(i,b)∈D) (ho:ops[i]? =some o) (hd:o.dst=some d) (hx:zj P st o=some x) (hs:st.new (d::st.pre) x=some s):
 ∃ G',Fx P ops pr lz F0 (v.set i true) (s.put (some d) (.c (.c (aR x (d::st.pre))))) m L (D.filter fun p=>p.1 != i) (F.afy b) a w G':=by
 obtain⟨hil,hiv,o',d',x',arr,Tt,r1,r2,r3,r4,r5,r6,r7,r8⟩:=h.hD _ hi;simp only at hil hiv r1 r6 r7 r8;rw [ho]at r1;injection r1 with r1;subst r1;rw [hd]at r3;injection r3 with r3;subst r3;rw [hx]at r4;injection r4 with r4;subst r4;have t':=h.ht.afy hi h.n1 h.n2 hl0;have hav:F.av b:=(h.ht.av _).2 (.inr ⟨i,hi⟩);have hh:w.heap[b]? =some (.cells arr Tt (0,0)):=by rw [h.hR.ext b (h.hR.aaS b hav) r7];exact r6
 obtain⟨G',hR'⟩:=uG hw r5 h.hR hav (t'.atb hi0 fun x hx hx2=>(t'.kept x hx hx2).1) hh r8 hs;refine⟨G',⟨by simpa using h.hv,h.hL,fun k=>?_,h.hdc,List.Sublist.nodup (by grind [filter_sublist]) h.n1,List.Sublist.nodup (by grind [filter_sublist]) h.n2,fun p hp=>?_,t',?_,hR'⟩,h.hS⟩
 ·rw [h.hb,Dl (by rw [h.hv];exact hil)];by_cases hk:k=i
  ·grind
  ·have e1:(k==i)=false:=by grind
   rw [e1,Bool.false_or];congr 1;rw [Bool.eq_iff_iff,P1,P1];grind
 ·obtain⟨hp1,hp2⟩:=mem_filter.1 hp;have hne:p.1 ≠ i:=by grind
  obtain⟨q1,q2,o',d',x',abo,Tt',s1,s2,s3,s4,s5,s6,s7,s8⟩:=h.hD p hp1;refine⟨q1,by rw [Dl (by rw [h.hv];exact hil),q2];grind,o',d',x',abo,Tt',s1,s2,s3,by grind [Vk],s5,s6,fun q=>?_,s8⟩;rcases q with q | q
  ·exact s7 q
  ·have:p=(i,b):=jr h.n2 hp1 hi q;grind
 ·have h1:=YK h.hv hil hiv;have h2:=h.hc;have h3:(D.filter fun p=>p.1 != i).length +1=D.length:=by
   have key: ∀ l:List (Nat×Nat),(l.map (·.1)).Nodup ->(i,b)∈l->(l.filter fun p=>p.1 != i).length +1=l.length:=by
    intro l;induction l with
    | nil=>grind
    | cons p l ih=>
      intro hn hm;rw [map_cons]at hn;obtain⟨n1,n2⟩:=nodup_cons.1 hn;rcases mem_cons.1 hm with e | hm
      ·grind [List.filter_eq_self]
      grind
   exact key D h.n1 hi
  omega
theorem qc {v:List Bool} {i:Nat} (h:xv ops v=some i):i<ops.size/\SJ ops v i=true:=by
 unfold xv at h;split at h
 ·rename_i j hj;injection h with h;subst h;have:j∈(List.range ops.size).filter fun i=>SJ ops v i&& !p9 ops i:=by grind
  grind
 all_goals grind
theorem qd {v:List Bool} {i:Nat} (h:Acr ops v=some i):i<ops.size/\SJ ops v i=true/\OT ops i ≠ 0:=by obtain⟨h1,h2⟩:=xA h;simp only [and_eq_true,not_eq_true']at h2;exact⟨by grind,h2.1,fun e=>by simp_all⟩
theorem sA {v:List Bool} {i:Nat} (h:SJ ops v i=true):bv v i=false:=by simp_all [SJ]
theorem sB {i:Nat} (h:p9 ops i=true):OT ops i=0:=by
 unfold p9 at h;split at h
 all_goals simp_all [OT,O2]
theorem Im {P:Program} {st a_:Ai T} (h:aT P ops st=true):aT P ops a_=true:=by
 simp only [aT,all_eq_true,or_eq_true,not_eq_true']at h ⊢;intro o ho;rcases h o ho with q | q
 ·exact .inl q
 ·cases hm:xu o with
  | false=>grind
  | true=>grind [Vk]
theorem Fx.other (hp:iL ops pr=true) (h:Fx P ops pr lz F0 v st m L D F a w G) {i:Nat} (hok:AdW ops pr v i=true) (hiD: ∀ b,(i,b)∉D) {j:Nat} (hj:j∈Region.ready .any ops L.toArray) (hne:j ≠ i):p9 ops j=true:=by
 obtain⟨h1,h2,h3,h4,h5⟩:=h.afl hp hj;simp only [AdW,all_eq_true,mem_range,or_eq_true,beq_eq,any_eq_true,and_eq_true,not_eq_true']at hok;rcases hok j h1 with q | q | q | ⟨x,hx,q1,q2⟩
 ·grind
 ·grind
 ·exact q
 ·exfalso;have:=h5 x hx;rw [h.hb,q1,Bool.false_or]at this;obtain⟨b,hb⟩:=P1.1 this;rcases q2 with q2 | q2
  ·obtain⟨_,_,o,d,y,arr,Tt,r1,r2,_⟩:=h.hD _ hb;grind [p9]
  grind
theorem SK (hst:U1 ops pr=true) (hdn:aS ops=true) (hlz:Qo ops lz=true) (aby:mw P I rec) (il:Hl) (hI0:F0.I=I) (hi0:xq F0) (hd0: ∀ x,F0.old x-> ¬F0.av x) (hl0: ∀ x,F0.av x->x<F0.w0.heap.size) {R':Type} {K:Ai T->Option R'} {r:R'} {PK:St->Prop}:
 ∀ (n:Nat) (v:List Bool) (pd:List Qq) (st:Ai T) (H:Aw T),AJ H st->(∀ q∈pd,Xx P ops lz H st.nx q)->aT P ops st=true->Ma Γ rec ops pr lz il n v pd st R' K=some r->(∀ H' a_,Nx H st H' a_->K a_=some r->PK a_.toSt)->
 ∀ (m:Nat) (L:List Bool) (D:List (Nat×Nat)) (F:Fr) (a:Act) (w:World) (G:AG),Fx P ops pr lz F0 v st m L D F a w G->D4 P ops (fun e a' w'=>e= .normal /\ ∃ s G',PK s/\R F0 s a' w' G') pr lz m L.toArray a w
 | 0,v,pd,st,H,hw,hpd,hma,hr,hK,m,L,D,F,a,w,G,h=>by
   simp only [Ma]at hr;split at hr
   ·cases hr
   split at hr
   ·rename_i afX;simp only [all_eq_true,mem_range]at afX;have hD:D=[]:=by
     cases D with
     | nil=>rfl
     | cons p D=>
       obtain⟨q1,q2,_⟩:=h.hD p (by simp);grind
    subst hD;obtain⟨s,⟨⟨H1,n1⟩,_,w1⟩,hr⟩:=GC ops.size il hw R' _ r hr;obtain⟨G',hR'⟩:=w1 F a w G h.hR;have hQ:(fun(e:Exit) (a':Act) (w':World)=>e= .normal /\ ∃ s G',PK s/\R F0 s a' w' G') .normal a w:=⟨rfl,s.toSt,G',hK H1 s n1 hr,h.ht.back hi0 hd0 hl0 hR'⟩;have hrd:Region.ready .any ops L.toArray=[]:=by
     rw [mA h.hL,List.filter_eq_nil_iff];intro i hi;have:bv L i=true:=by rw [h.hb,afX i (by simpa using hi)];rfl
     simp [SJ,this]
    cases m with
    | zero=>exact⟨hrd,hQ⟩
    | succ m=>exact⟨fun _=>hQ,fun i hi=>by rw [hrd]at hi;cases hi⟩
   ·cases hr
 | n+1,v,pd,st,H,hw,hpd,hma,hr,hK,m,L,D,F,a,w,G,h=>by
   obtain⟨hns,hp,ad0⟩:=Hh hst;have hQ: ∀ c a w, ¬(fun(e:Exit) (a':Act) (w':World)=>e= .normal /\ ∃ s G',PK s/\R F0 s a' w' G') (.panic c) a w:=(by grind);have hI:F.I=I:=h.ht.alI.trans hI0;have hm:a.tmps.size=st.m:=by rw [h.hR.size];exact Bw _ _
   have hck:=aV hr;simp only [Ma]at hr;split at hr
   ·cases hr
   split at hr
   ·rename_i i am1;obtain⟨hil,ako,hcN⟩:=qd am1;have hiu:=sA ako;have hiD: ∀ b,(i,b)∉D:=fun b hb=>by obtain⟨_,_,o,d,x,arr,Tt,r1,r2,_⟩:=h.hD _ hb;grind [sB,p9]
    have akn:=h.rdy hil ako hiD;have aja:=h.hdc.set hp akn;rw [B3]at aja;obtain⟨m',rfl⟩: ∃ m',m=m'+1:=⟨m - 1,by have:=h.pos hil hiu hiD;omega⟩;split at hr
    ·rename_i o hi;have hc:DP o ≠ 0:=by grind [OT]
     obtain⟨hgd,d,hd⟩:=LY hc;have hdl:d∉o.looksAt ops:=(by grind);have atw:=fun cs b=>Region.noSelect_spec hns i o cs b hi;have go: ∀ (a_:Ai T) (H':Aw T) (pd':List Qq),xz o st=true->Nx H st H' a_->(∀ q∈pd',Xx P ops lz H' a_.nx q)->(∃ u G',(∀ w',(DP o=2\/CX w w')->(execOp a.eval o).run P w'= .ok (.value u) w')/\R F a_.toSt (a.put o.dst u) w G')->
      Ma Γ rec ops pr lz il n (v.set i true) pd' a_ R' K=some r->D4 P ops (fun e a' w'=>e= .normal /\ ∃ s G',PK s/\R F0 s a' w' G') pr lz (m'+1) L.toArray a w:=by
      intro a_ H' pd' hlt hn att ⟨u,G',A_,hR'⟩ hq;have hW:uf P (i∈lz) o (a.put o.dst u) w:=by intro d' hd';refine⟨_, .inr rfl,fun w' hw'=>?_⟩;rw [hd]at hd';injection hd' with hd';subst hd';rw [execOp_put o atw a o.dst u (fun e he=>by rw [hd]at he;injection he with he;exact he▸hdl),A_ w' hw',hd];simp_all [xz,Act.put]
      have hS':=dk.take hst hi hc h.hdc akn h.hS hW;refine Adn (v:=u) hst hlz hi hc hQ m' L.toArray a w h.hdc akn ?_;rw [B3]at hS' ⊢;have hfx:Fx P ops pr lz F0 (v.set i true) a_ m' (L.set i true) D F (a.put o.dst u) w G':=?_
      ·intro a'' hu;have hf2:=hfx.ups hst hdn hlz hn.ok att (aV hq) hu;exact⟨hf2.hS,SK hst hdn hlz aby il hI0 hi0 hd0 hl0 n (v.set i true) pd' a_ H' hn.ok att (Im hma) hq (fun H'' s n' q=>hK H'' s (hn.trans n') q) m' _ D F _ w G' hf2⟩
      refine⟨⟨by simpa using h.hv,by simpa using h.hL,fun k=>?_,aja,h.n1,h.n2,fun p hp'=>?_,h.ht,?_,hR'⟩,hS'⟩
      ·rw [Dl (by rw [h.hL];exact hil),Dl (by rw [h.hv];exact hil),h.hb,Bool.or_assoc]
      ·obtain⟨q1,q2,q3⟩:=h.hD p hp';have hne:p.1 ≠ i:=(by grind);refine⟨q1,by rw [Dl (by rw [h.hv];exact hil),q2];grind,q3.move fun d' o' ho' hd'=>?_⟩;exact En (fun e he=>Ho hdn hi ho' (Ne.symm hne) he hd')
      ·have h1:=YK h.hv hil hiu;have h2:=h.hc;omega
     have pdx: ∀ {a_:Ai T} {H':Aw T},Nx H st H' a_-> ∀ q∈pd,Xx P ops lz H' a_.nx q:=fun hn q hq=>(hpd q hq).nx hn;have asy: ∀ {B:St},Yld P I o st.toSt B->DP o ≠ 2-> ∃ u G',(∀ w',(DP o=2\/CX w w')->(execOp a.eval o).run P w'= .ok (.value u) w')/\R F B (a.put o.dst u) w G':=fun hy h2=>by obtain⟨u,G',q1,q2⟩:=hy F a w G hI h.hR;grind
     split at hr
     ·rename_i h2 hlt;have h2:DP o=2:=(by simp_all);have hsl:OS o.op=true:=by grind [DP]
      obtain⟨u,hu,hr⟩:=LX hw (L4 _ _) o.op R' _ r hr;obtain⟨q1,q2,q3⟩:=hu rfl;obtain⟨H',hn⟩:=Ai.aar hw o.dst q1;refine go _ H' pd hlt hn (pdx hn) ?_ hr;obtain⟨x,k1,k2⟩:=pM h.hR rfl hsl q2;change Ae w G (DU P st.toSt true o.op).2 x at k1;rw [show (DU P st.toSt true o.op).2=u.toV from q3]at k1;exact⟨x,G,fun w' _=>k2 w',by rw [Ai.k_];exact h.hR.put k1⟩
     ·rename_i h2 hlt;have h2:DP o ≠ 2:=fun e=>by simp_all
      split at hr
      ·obtain⟨a_,⟨⟨H',hn⟩,_,hy⟩,hr⟩:=sv (I:=I) hw R' _ r hr;grind
      ·obtain⟨a_,⟨⟨H',hn⟩,_,hy⟩,hr⟩:=xd (I:=I) hw R' _ r hr;grind
      ·cases hr
      ·rename_i hld;have aw8:Ck o.op= .rd :=by
        unfold AfM at hld;split at hld
        ·rename_i q;rw [q];rfl
        ·cases hld
       split at hr
       ·rename_i a_ q hq;obtain⟨H',hn,_,hy,hpq,_⟩:=AaG (I:=I) hw (lz:=lz) (fun q=>Fl.1 q) hi hq;grind
       ·obtain⟨u,hu,hr⟩:=LX hw (L4 _ _) o.op R' _ r hr;obtain⟨H',hn⟩:=Ai.aar hw o.dst (hu rfl).1;exact go _ H' pd hlt hn (pdx hn) (asy (xo hw aw8 hu) h2) hr
     ·cases hr
    ·cases hr
   ·split at hr
    ·rename_i i am1;obtain⟨hil,ako⟩:=qc am1;have hiu:=sA ako;split at hr
     ·rename_i o hi hok;simp only [and_eq_true]at hok;obtain⟨hok,hun⟩:=hok;split at hr
      ·
       rename_i hc hmk;split at hr
       ·rename_i d x hd hx;split at hr
        ·rename_i s hs;have hxr: ∀ {m:Nat} {L:List Bool} {D:List (Nat×Nat)} {F:Fr} {a:Act} {w:World} {G:AG} {b:Nat},Fx P ops pr lz F0 v st m L D F a w G->(i,b)∈D->D4 P ops (fun e a' w'=>e= .normal /\ ∃ s G',PK s/\R F0 s a' w' G') pr lz m L.toArray a w:=by intro m L D F a w G b h hib;obtain⟨G',hfx⟩:=h.aun hi0 hl0 hw hib hi hd hx hs;obtain⟨_,_,_,_,_,_,_,r1,_,_,r4,r5,_⟩:=h.hD _ hib;simp only at r1;rw [hi]at r1;injection r1 with r1;subst r1;rw [hx]at r4;injection r4 with r4;subst r4;obtain⟨⟨H1,n1⟩,_,_⟩:=Ai.acB hw r5.ok hs;obtain⟨H2,n2⟩:=Ai.R_ n1 (some d) (v:= .c (.c (aR x (d::st.pre)))) (by simp only [DV.ok,DC.ok]);exact SK hst hdn hlz aby il hI0 hi0 hd0 hl0 n (v.set i true) pd _ H2 n2.ok (fun q hq=>(hpd q hq).nx n2) (Im hma) hr (fun H'' s n' q=>hK H'' s (n2.trans n') q) m _ _ _ a w G' hfx
         have main: ∀ (m:Nat) (L:List Bool) (D:List (Nat×Nat)) (F:Fr) (a:Act) (w:World) (G:AG),Fx P ops pr lz F0 v st m L D F a w G->D4 P ops (fun e a' w'=>e= .normal /\ ∃ s G',PK s/\R F0 s a' w' G') pr lz m L.toArray a w:=by
          intro m;induction m with
          | zero=>
            intro L D F a w G h;by_cases hiD: ∃ b,(i,b)∈D
            ·grind
            ·have:=h.pos hil hiu (by grind);omega
          | succ m ih=>
            intro L D F a w G h;by_cases hiD: ∃ b,(i,b)∈D
            ·grind
            ·have hiD: ∀ b,(i,b)∉D:=(by grind);refine⟨fun q=>(by have:=h.rdy hil ako hiD;grind),fun j hj=>?_⟩;have hmj:p9 ops j=true:=by
              by_cases hji:j=i
              ·grind [p9]
              ·exact h.other hp hok hiD hj hji
             exact h.make hst hdn hlz hpd hck hi0 hw hma hun hj hmj (by grind)
         grind
        ·cases hr
       ·cases hr
      ·rename_i hc hmk;have hiD: ∀ {m:Nat} {L:List Bool} {D:List (Nat×Nat)} {F:Fr} {a:Act} {w:World} {G:AG},Fx P ops pr lz F0 v st m L D F a w G-> ∀ b,(i,b)∉D:=by intro m L D F a w G h b hb;obtain⟨_,_,o',_,_,_,_,r1,r2,_⟩:=h.hD _ hb;grind
       split at hr
       ·rename_i aEX;have hbs:xy o=true:=by grind
        have hg:o.guard=none:=by grind [xy]
        have main: ∀ (m:Nat) (L:List Bool) (D:List (Nat×Nat)) (F:Fr) (a:Act) (w:World) (G:AG),Fx P ops pr lz F0 v st m L D F a w G->D4 P ops (fun e a' w'=>e= .normal /\ ∃ s G',PK s/\R F0 s a' w' G') pr lz m L.toArray a w:=by
         intro m;induction m with
         | zero=>
           intro L D F a w G h;have:=h.pos hil hiu (hiD h);omega
         | succ m ih=>
           intro L D F a w G h;have akn:=h.rdy hil ako (hiD h);refine⟨(by grind),fun j hj=>?_⟩;by_cases hji:j=i
           ·subst hji;have hI:F.I=I:=h.ht.alI.trans hI0;have aja:=h.hdc.set hp akn;rw [B3]at aja;obtain⟨a_,⟨⟨H',hn⟩,e1,e2,_⟩,hq⟩:=YD hw o R' _ r hr;have atQ:=aV hq;refine pN hst hlz hi hc h.hdc hj h.hS (K:=fun a' w'=>CX w w'/\ ∃ G',R F a_.toSt a' w' G') ?_ ?_ ?_ ?_
            ·rw [FY hg,if_pos rfl];exact AfQ hbs e1 e2 h.hR
            ·intro a' w' ⟨hsm,_⟩ p op hop hcp hpl hpf he1 he2 hW d hd;obtain⟨u,m1,m2⟩:=hW d hd;refine⟨u,by grind,fun w1 hw1=>?_⟩;have h1:=hw1.resolve_left (by rw [hcp];omega);rw [he1 w1 (hsm.trans h1)];exact m2 w1 (.inr (hsm.trans h1))
            ·intro a' w' a'' ⟨hsm,G',hR'⟩ ⟨p,op,d,u,u1,hop,u3,hpl,hpf,u6,ea⟩;subst ea;refine⟨hsm,G',?_⟩;have hcp:=(Ju hlz u1 hop).1;have aEn:p ≠ j:=(by grind);have hvp:bv (v.set j true) p=true:=by
              rw [Dl (by rw [h.hv];exact hil)];rcases DH hpl with e | q
              ·grind
              ·rw [GD,h.hb,or_eq_true]at q;rw [or_eq_true];rcases q with q | q
               ·exact .inr q
               ·exfalso;obtain⟨b,hb⟩:=P1.1 q;obtain⟨_,_,o',_,_,_,_,r1,r2,_⟩:=h.hD _ hb;simp_all [O2]
             simp only [W4,all_eq_true,or_eq_true,not_eq_true']at atQ;rcases atQ p u1 with q | q | q
             ·grind
             ·exfalso;refine hpf ?_;simp only [xw,any_eq_true,mem_range,and_eq_true,beq_eq,Fl]at q;obtain⟨k,_,k1,k2,k3⟩:=q;refine⟨k,?_,k2,k3⟩;rw [B3,GD,Dl (by rw [h.hL];exact hil),h.hb];rw [Dl (by rw [h.hv];exact hil)]at k1;grind
             ·simp only [any_eq_true,and_eq_true,beq_eq]at q;obtain⟨q0,hq0,e0,am3⟩:=q;subst e0;obtain⟨r1,x,_,r2,r3⟩:=YJ hn.ok ((hpd q0 hq0).nx hn) am3 hop hR';rw [u3]at r1;injection r1 with r1;subst r1;rw [r3 w' (CX.refl w')]at u6;have hxu:x=u:=by grind
              subst hxu;exact hR'.amx r2
            ·intro a' w' ⟨_,G',hR'⟩ ha' hS';rw [B3]at hS' ⊢;refine SK hst hdn hlz aby il hI0 hi0 hd0 hl0 n (v.set j true) pd a_ H' hn.ok (fun q hq=>(hpd q hq).nx hn) (Im hma) hq (fun H'' s n' q=>hK H'' s (hn.trans n') q) m _ D F a' w' G' ⟨⟨by simpa using h.hv,by simpa using h.hL,fun k=>?_,aja,h.n1,h.n2,fun p hp'=>?_,h.ht,?_,hR'⟩,hS'⟩
             ·rw [Dl (by rw [h.hL];exact hil),Dl (by rw [h.hv];exact hil),h.hb,Bool.or_assoc]
             ·obtain⟨q1,q2,q3⟩:=h.hD p hp';have hne:p.1 ≠ j:=(by grind);refine⟨q1,by rw [Dl (by rw [h.hv];exact hil),q2];grind,q3.move fun d' o' ho' hd'=>?_⟩;exact ha' d' (fun he=>Ho hdn hi ho' (Ne.symm hne) he hd' rfl) fun p2 op2 hp2 hc2 hd2=>by have hpp:p2 ≠ p.1:=(by grind [AfP]);exact Ho hdn hp2 ho' hpp hd2 hd' rfl
             ·have h1:=YK h.hv hil hiu;have h2:=h.hc;omega
           ·exact h.make hst hdn hlz hpd hck hi0 hw hma hun hj (h.other hp hok (hiD h) hj hji) (by grind)
        grind
       ·skip;have main: ∀ (m:Nat) (L:List Bool) (D:List (Nat×Nat)) (F:Fr) (a:Act) (w:World) (G:AG),Fx P ops pr lz F0 v st m L D F a w G->D4 P ops (fun e a' w'=>e= .normal /\ ∃ s G',PK s/\R F0 s a' w' G') pr lz m L.toArray a w:=by
         intro m;induction m with
         | zero=>
           intro L D F a w G h;have:=h.pos hil hiu (hiD h);omega
         | succ m ih=>
           intro L D F a w G h;have akn:=h.rdy hil ako (hiD h);refine⟨(by grind),fun j hj=>?_⟩;by_cases hji:j=i
           ·subst hji;have hI:F.I=I:=h.ht.alI.trans hI0;have aja:=h.hdc.set hp akn;rw [B3]at aja;have hwp:=AdY aby hw (PK:=fun s=> ∃ H' a_,Nx H st H' a_/\aU ops pr (v.set j true) pd a_=true/\Ma Γ rec ops pr lz il n (v.set j true) pd a_ R' K=some r/\s=a_.toSt) hr (by grind);have fresh: ∀ {a_:Ai T} {p:Nat} {op:Oper},aU ops pr (v.set j true) pd a_=true->ops[p]? =some op->DP op=1->L.toArray.getD p false=true-> ¬Frc ops pr p (L.toArray.setIfInBounds j true)-> ∃ q∈pd,q.i=p/\uF a_ q=true:=by
             intro a_ p op hck hop hcp hpl hpf;simp only [aU,all_eq_true,mem_range,or_eq_true,not_eq_true']at hck;have axe:p<ops.size:=(by grind);have hLp:(L.set j true).toArray.getD p false=true:=by grind [getD_set_true]
             have aEV:OT ops p=1:=by grind [OT]
             have hvp:bv (v.set j true) p=true:=by
              rw [GD,Dl (by rw [h.hL];exact hil),h.hb]at hLp;rw [Dl (by rw [h.hv];exact hil)];simp only [or_eq_true]at hLp ⊢;rcases hLp with q | q | q
              ·exact .inl q
              ·exact .inr q
              ·exfalso;obtain⟨b,hb⟩:=P1.1 q;obtain⟨_,_,o',_,_,_,_,r1,r2,_⟩:=h.hD _ hb;grind [sB,p9]
             rcases hck p axe with q | q | q | q
             ·grind
             ·simp_all
             ·exfalso;refine hpf ?_;simp only [xw,any_eq_true,mem_range,and_eq_true,beq_eq,Fl]at q;obtain⟨k,_,k1,k2,k3⟩:=q;refine⟨k,?_,k2,k3⟩;rw [B3,GD,Dl (by rw [h.hL];exact hil),h.hb];rw [Dl (by rw [h.hv];exact hil)]at k1;grind
             simp_all
            refine pN hst hlz hi hc h.hdc hj h.hS (K:=fun a' w'=> ∃ H' a_ G',Nx H st H' a_/\aU ops pr (v.set j true) pd a_=true/\Ma Γ rec ops pr lz il n (v.set j true) pd a_ R' K=some r/\R F a_.toSt a' w' G') ?_ ?_ ?_ ?_
            ·have:=UQ (Q:=fun e a' w'=>e= .normal /\ ∃ s G',PK s/\R F0 s a' w' G') h.hR (by rw [hI];exact hwp);have cv: ∀ a' w',oV F (fun s=> ∃ s',Wk s s'/\ ∃ H' a_,Nx H st H' a_/\aU ops pr (v.set j true) pd a_=true/\Ma Γ rec ops pr lz il n (v.set j true) pd a_ R' K=some r/\s'=a_.toSt) a' w'-> ∃ H' a_ G',Nx H st H' a_/\aU ops pr (v.set j true) pd a_=true/\Ma Γ rec ops pr lz il n (v.set j true) pd a_ R' K=some r/\R F a_.toSt a' w' G':=by rintro a' w' ⟨s,G1,⟨s',hwk,H',a_,k1,k2,k3,rfl⟩,hR1⟩;obtain⟨G2,hR2⟩:=hwk _ _ _ _ hR1;grind
             split at this
             ·rename_i hwt;rw [if_pos hwt];exact Oper.wp_mono cv this
             ·rename_i hwt;rw [if_neg hwt];exact cv _ _ this
            ·intro a' w' ⟨H',a_,G',hn,hck,_,hR'⟩ p op hop hcp hpl hpf _ _ _;obtain⟨q0,hq0,e0,am3⟩:=fresh hck hop hcp hpl hpf;subst e0;exact xn hn.ok ((hpd q0 hq0).nx hn) am3 hop hcp hR'
            ·intro a' w' a'' ⟨H',a_,G',hn,hck,hq,hR'⟩ ⟨p,op,d,u,u1,hop,u3,hpl,hpf,u6,ea⟩;subst ea;have hcp:=(Ju hlz u1 hop).1;refine⟨H',a_,G',hn,hck,hq,?_⟩;have aqM:L.toArray.getD p false=true:=by grind [DH]
             obtain⟨q0,hq0,e0,am3⟩:=fresh hck hop hcp aqM hpf;subst e0;obtain⟨r1,x,_,r2,r3⟩:=YJ hn.ok ((hpd q0 hq0).nx hn) am3 hop hR';rw [u3]at r1;injection r1 with r1;subst r1;rw [r3 w' (CX.refl w')]at u6;have hxu:x=u:=by grind
             subst hxu;exact hR'.amx r2
            ·intro a' w' ⟨H',a_,G',hn,_,hq,hR'⟩ ha' hS';rw [B3]at hS' ⊢;refine SK hst hdn hlz aby il hI0 hi0 hd0 hl0 n (v.set j true) pd a_ H' hn.ok (fun q hq=>(hpd q hq).nx hn) (Im hma) hq (fun H'' s n' q=>hK H'' s (hn.trans n') q) m _ D F a' w' G' ⟨⟨by simpa using h.hv,by simpa using h.hL,fun k=>?_,aja,h.n1,h.n2,fun p hp'=>?_,h.ht,?_,hR'⟩,hS'⟩
             ·rw [Dl (by rw [h.hL];exact hil),Dl (by rw [h.hv];exact hil),h.hb,Bool.or_assoc]
             ·obtain⟨q1,q2,q3⟩:=h.hD p hp';have hne:p.1 ≠ j:=(by grind);refine⟨q1,by rw [Dl (by rw [h.hv];exact hil),q2];grind,q3.move fun d' o' ho' hd'=>?_⟩;exact ha' d' (fun he=>Ho hdn hi ho' (Ne.symm hne) he hd' rfl) fun p2 op2 hp2 hc2 hd2=>by have hpp:p2 ≠ p.1:=(by grind [AfP]);exact Ho hdn hp2 ho' hpp hd2 hd' rfl
             ·have h1:=YK h.hv hil hiu;have h2:=h.hc;omega
           ·exact h.make hst hdn hlz hpd hck hi0 hw hma hun hj (h.other hp hok (hiD h) hj hji) (by grind)
        grind
      ·cases hr
     ·cases hr
    ·cases hr
def AhT:HA->Bool
 | .q .lz =>true
 | _=>false
def xD (ops:Array Oper) (il:Hl):List Nat:=match (List.range ops.size).any fun i=>match L9 il i with
    | .c _=>true
    | .j .. =>true
    | _=>false with
 | true=>(List.range ops.size).filter fun i=>Qo ops [i]
 | false=>(List.range ops.size).filter fun i=>AhT (L9 il i)&&Qo ops [i]
theorem xE {ops:Array Oper} {il:Hl}:Qo ops (xD ops il)=true:=by
 unfold xD;split
 ·grind [Qo]
 ·unfold Qo;grind
def AdZ {P:Program} {I:World->Prop} (Γ:List (CE T P I)) (rec:uC T) (ops:Array Oper) (il:Hl) (pr:List (List Nat)) (st:Ai T) (R:Type) (K:Ai T->Option R):Option R:=match U1 ops pr&&(aS ops&&aT P ops st)with
 | true=>Ma Γ rec ops pr (xD ops il) il ops.size (List.replicate ops.size false) [] (uH ops.toList st) R K
 | false=>none
theorem js: ∀ (l:List Oper) {H:Aw T} {st:Ai T},AJ H st->(∃ H',Nx H st H' (uH l st))/\Wk st.toSt (uH l st).toSt
 | [],H,st,hw=>⟨⟨H,Nx.refl hw⟩,Wk.less (Cn.refl _)⟩
 | o::r,H,st,hw=>by
   unfold uH;split
   ·obtain⟨H1,n1⟩:=Ai.aar hw o.dst (v:= .u) (by simp only [DV.ok]);obtain⟨⟨H2,n2⟩,w2⟩:=js r n1.ok;refine⟨⟨H2,n1.trans n2⟩,Wk.trans ?_ w2⟩;intro F a w G hR;refine⟨G,?_⟩;rw [Ai.k_];cases hd:o.dst with
    | none=>exact hR
    | some d=>exact hR.aeQ (by simp only [DV.toV,Ae])
   ·exact js r hw
theorem AaJ (abQ:P.follows .mixedOrders =true) (aby:mw P I rec) {il:Hl} {id:Nat} (hw:AJ H st) {R':Type} {K:Ai T->Option R'} {r:R'} (hr:AdZ Γ rec ops il pr st R' K=some r) {F:Fr} (hI:F.I=I) {PK:St->Prop} {Q:Exit->St->Prop} (hPK: ∀ s,PK s->Q .normal s)
 (hK: ∀ H' a_,Nx H st H' a_->K a_=some r->PK a_.toSt):Ag P F (.region id ops true) st.toSt Q:=by
 unfold AdZ at hr;split at hr
 ·rename_i hst;simp only [and_eq_true]at hst;obtain⟨hst,hdn,hma⟩:=hst;obtain⟨⟨H1,n1⟩,w1⟩:=js ops.toList hw;refine Ag.wk w1 ?_;intro a w G hR;have hR':=hR.same (w':={w with drawn:=w.drawn+1}) ⟨rfl,rfl,rfl⟩ ⟨le_refl _,fun _ _=>rfl⟩;have hz: ∀ k,bv (List.replicate ops.size false) k=false:=(by grind [bv]);have hz2: ∀ k,(List.replicate ops.size false).toArray.getD k false=false:=fun k=>by rw [GD,hz]
  have hu:(unv ops.size (List.replicate ops.size false)).length <=ops.size:=by grind [unv]
  have key:=SK (pr:=pr) hst hdn xE aby il hI hR.inv hR.aaj hR.aaS ops.size _ [] _ H1 n1.ok (by grind) (Im hma) hr (fun H' s n q=>hK H' s (n1.trans n) q) ops.size (List.replicate ops.size false) [] F a {w with drawn:=w.drawn+1} G
   (.mk ⟨(by simp),(by simp),(by grind),(fun k hk=>by rw [hz2]at hk;cases hk),List.nodup_nil,List.nodup_nil,(by grind),K7.start F,(by grind),hR'⟩ (fun i o _ _ hl=>by rw [hz2]at hl;cases hl))
  have:=Z4 _ _ _ _ key;have h2:=wp_region_any (id:=id) abQ (by simpa using this);grind [Code.wp_mono]
 ·cases hr
end
end Go.PL
namespace Go.PL
open Go Go.RowKit
variable {T:Bj}
def ET (T:Bj):List (Nat×IF)->Type
 | []=>Empty
 | [x]=>RT T x.2.ts
 | x::y::r=>RT T x.2.ts⊕ET T (y::r)
def xF {α β:Type} (f:α->β):Option α->Option β
 | some x=>some (f x)
 | none=>none
def uI (st0 a_:Ai T) (k:Nat):(xs:List (Nat×IF))->Option (ET T xs)
 | []=>none
 | [x]=>match Nat.beq x.1 k with
   | true=>x.2.gen st0 a_
   | false=>none
 | x::y::r=>match Nat.beq x.1 k with
   | true=>xF Sum.inl (x.2.gen st0 a_)
   | false=>xF Sum.inr (uI st0 a_ k (y::r))
def gi {R:Type} (st0:Ai T) (K:Nat->Ai T->Option R):(xs:List (Nat×IF))->ET T xs->Option R
 | []=>fun o=>nomatch o
 | [x]=>fun v=>match x.2.inst st0 (CB x.2.ts v)with
   | some s=>K x.1 s
   | none=>none
 | x::y::r=>Sum.elim (fun v=>match x.2.inst st0 (CB x.2.ts v)with
   | some s=>K x.1 s
   | none=>none) (gi st0 K (y::r))
def qe:Nat->Exit
 | 0=> .ret
 | n+1=> .exit n
def P2:Exit->Option Nat
 | .ret =>some 0
 | .exit n=>some (n+1)
 | _=>none
theorem qf {e:Exit} {k:Nat} (h:P2 e=some k):qe k=e:=by
 cases e<;>simp only [P2,injEq]at h<;>first
  | (subst h;rfl)
  | grind
theorem Vl {α β:Type} {f:α->β} {o:Option α} {y:β} (h:xF f o=some y): ∃ x,o=some x/\f x=y:=by
 cases o with
 | none=>cases h
 | some x=>injection h with h;grind
theorem sC {H H':Aw T} {R:Type} {st0 a_:Ai T} {k:Nat} {K:Nat->Ai T->Option R} {r:R} (h0:AJ H st0) (hN:Nx H st0 H' a_): ∀ {xs:List (Nat×IF)} {o:ET T xs},uI st0 a_ k xs=some o->gi st0 K xs o=some r->
 ∃ s H2,Wk a_.toSt s.toSt/\Nx H st0 H2 s/\K k s=some r
 | [],o,h,_=>by cases h
 | [x],o,h,he=>by
   simp only [uI]at h;split at h
   ·rename_i hb;have hb:=eq_of_beq_eq_true hb;subst hb;simp only [gi]at he;split at he
    ·rename_i s hi;obtain⟨H2,n2⟩:=IF.aeq h0 (Es _ _) hi;exact⟨s,H2,IF.ad4 h0 hN h hi,n2,he⟩
    ·cases he
   ·cases h
 | x::y::r',o,h,he=>by
   simp only [uI]at h;split at h
   ·rename_i hb;have hb:=eq_of_beq_eq_true hb;subst hb;obtain⟨v,h1,rfl⟩:=Vl h;simp only [gi,Sum.elim_inl]at he;split at he
    ·rename_i s hi;obtain⟨H2,n2⟩:=IF.aeq h0 (Es _ _) hi;grind [IF.ad4]
    ·cases he
   ·obtain⟨v,h1,rfl⟩:=Vl h;simp only [gi,Sum.elim_inr]at he;exact sC h0 hN h1 he
theorem uJ {σ ρ:Type} {B:σ->Option (σ⊕ρ)} {n:Nat} {s:σ} {o:ρ} (h:PL.iter B n s=some o): ∃ z,B s=some z:=by
 cases n with
 | zero=>cases h
 | succ n=>
   simp only [PL.iter]at h;grind
section
variable {P:Program} {I:World->Prop}
def Ad0 (Γ:List (CE T P I)) (rec:uC T) (ops:Array Oper) (dr:Bool) (fz:List Ak) (ow:List (Ak×Nat×Ak×Nat)) (il:Hl) (st:Ai T) (R:Type) (K:Ai T->Option R):Option R:=
 match dr with
 | false=>aQ Γ rec ops il ops.toList 0 (FL fz st) R fun s=>match mj ow s with
   | some s'=>K s'
   | none=>none
 | true=>match AhN il with
   | true=>Vh il 0 (FL fz st) R fun s0=>AdZ Γ rec ops il (AfL ops) s0 R fun s=>match mj ow s with
     | some s'=>K s'
     | none=>none
   | false=>match Region.lexB .any ops with
     | true=>wZ Γ ops ops.toList (FL fz st) R fun s=>match mj ow s with
       | some s'=>K s'
       | none=>none
     | false=>none
def Ad1:Hn->List Ak×List (Ak×Nat×Ak×Nat)×Hl
 | .r fz ow il=>(fz,ow,il)
 | _=>([],[], .n)
def xG {R:Type} (N:Ai T->Option R) (K:Exit->Ai T->Option R) (e:Exit) (s:Ai T):Option R:=match e with
 | .normal =>N s
 | e=>K e s
def xH {R:Type} (j:Nat) (K:Exit->Ai T->Option R) (e:Exit) (s:Ai T):Option R:=match e with
 | .exit i=>match Nat.beq i j with
   | true=>K .normal s
   | false=>K (.exit i) s
 | e=>K e s
def QB {α:Type} (h:Hn) (o:Option α):Option α:=match h with
 | .x =>none
 | _=>o
theorem Et {α:Type} {h:Hn} {o:Option α} {x:α} (q:QB h o=some x):o=some x:=by grind [QB]
def Lx (Γ:List (CE T P I)) (rec:uC T):Code->Hn->Ai T->(R:Type)->(Exit->Ai T->Option R)->Option R
 | .skip,h,st,_,K=>QB h (K .normal st)
 | .ret,h,st,_,K=>QB h (K .ret st)
 | .exit j,h,st,_,K=>QB h (K (.exit j) st)
 | .label _,h,st,_,K=>QB h (K .normal st)
 | .scope c,h,st,R,K=>QB h (Lx Γ rec c h st R fun e s=>match P2 e with
   | some _=>K e s
   | none=>match e with
     | .normal =>K .normal s
     | _=>none)
 | .block j c,h,st,R,K=>QB h (Lx Γ rec c h st R (xH j K))
 | .cond c x y,h,st,R,K=>QB h (match st.ev c with
   | .c (.k .bool b)=>if(show Bool from b) then Lx Γ rec x h.a st R K else Lx Γ rec y h.b st R K
   | _=>none)
 | .seq a b,h,st,R,K=>match h with
   | .j sh ha hb=>jn (fun v:RT T sh.ts=>match sh.inst st (CB sh.ts v)with
    | some s=>Lx Γ rec b hb s R K
    | none=>none) (fun j=>Lx Γ rec a ha st R (xG (fun s=>match sh.gen st s with
      | some v=>j v
      | none=>none) K))
   | .x =>none
   | h=>Lx Γ rec a h.a st R (xG (fun s=>Lx Γ rec b h.b s R K) K)
 | .region _ ops dr,h,st,R,K=>QB h (Ad0 Γ rec ops dr (Ad1 h).1 (Ad1 h).2.1 (Ad1 h).2.2 st R (K .normal))
 | .loop c,h,st,R,K=>match h with
   | .l sh xs hb=>match sh.gen st st with
     | some v0=>(iter (fun v:RT T sh.ts=>match sh.inst st (CB sh.ts v)with
      | some s=>Lx Γ rec c hb s (RT T sh.ts⊕ET T xs) fun e s'=>match e with
        | .normal =>match sh.gen st s' with
          | some v'=>match sh.inst st (CB sh.ts v')with
            | some _=>some (.inl v')
            | none=>none
          | none=>none
        | e=>match P2 e with
          | some k=>xF Sum.inr (uI st s' k xs)
          | none=>none
      | none=>none) FU v0).bind (gi st (fun k s=>K (qe k) s) xs)
     | none=>none
   | _=>none
 | _,_,_,_,_=>none
theorem Ag.wkQ {F:Fr} {c:Code} {st:St} {Q:Exit->St->Prop} (h:Ag P F c st (fun e s=> ∃ s',Wk s s'/\Q e s')):Ag P F c st Q:=fun a w G hR=>
 Code.wp_mono (fun _ _ _ ⟨_,G',⟨s',hwk,hq⟩,hR'⟩=>by obtain⟨G'',q⟩:=hwk _ _ _ _ hR';grind) (h a w G hR)
theorem AaK {Γ:List (CE T P I)} {rec:uC T} (abQ:P.follows .mixedOrders =true) (aby:mw P I rec) {ops:Array Oper} {id:Nat} {dr:Bool} {fz:List Ak} {ow:List (Ak×Nat×Ak×Nat)} {il:Hl} {st:Ai T} {H:Aw T} (hw:AJ H st) {R:Type} {K:Ai T->Option R} {r:R}
 (hr:Ad0 Γ rec ops dr fz ow il st R K=some r) {F:Fr} (hI:F.I=I) {Q:Exit->St->Prop} (hK: ∀ H' a_,Nx H st H' a_->K a_=some r->Q .normal a_.toSt):Ag P F (.region id ops dr) st.toSt Q:=by
 obtain⟨⟨H1,n1⟩,w1⟩:=F8 (l:=fz) (Nx.refl hw);refine Ag.wk w1 (Ag.wkQ ?_);have fin: ∀ H' s,Nx H1 (FL fz st) H' s->(match mj ow s with | some s'=>K s' | none=>none)=some r-> ∃ s',Wk s.toSt s'/\Q .normal s':=by
  intro H' s n q;split at q
  ·rename_i s' hs;obtain⟨⟨H2,n2⟩,w2,_⟩:=fX (n1.trans n) hs;grind
  ·cases q
 unfold Ad0 at hr;split at hr
 ·refine Ag.aod ?_;rw [hI];exact sy aby il _ 0 _ H1 n1.ok R _ r hr (fun s=> ∃ s',Wk s s'/\Q .normal s') (by grind)
 ·split at hr
  ·obtain⟨s0,⟨⟨H0,n0⟩,_,w0⟩,hr⟩:=GC 0 il n1.ok R _ r hr;exact Ag.wk w0 (AaJ abQ aby n0.ok hr hI (PK:=fun s=> ∃ s',Wk s s'/\Q .normal s') (fun _ h=>h) fun H' s n q=>fin H' s (n0.trans n) q)
  split at hr
  ·rename_i hl;refine Ag.aoe abQ hl ?_;rw [hI];obtain⟨s,⟨⟨H2,n2⟩,_,w2⟩,hr⟩:=mf (Γ:=Γ) (ops:=ops) ops.toList (FL fz st) H1 n1.ok R _ r hr;grind
  ·cases hr
theorem FB {Γ:List (CE T P I)} {rec:uC T} (abQ:P.follows .mixedOrders =true) (aby:mw P I rec): ∀ (c:Code) (h:Hn) (st:Ai T) (H:Aw T) (R:Type) (K:Exit->Ai T->Option R) (r:R),AJ H st->Lx Γ rec c h st R K=some r->
 ∀ (F:Fr) (Q:Exit->St->Prop),F.I=I->(∀ H' e a_,Nx H st H' a_->K e a_=some r->Q e a_.toSt)->Ag P F c st.toSt Q
 | .skip,h,st,H,R,K,r,hw,hr,F,Q,hI,hK=>Ag.skip (hK H _ st (Nx.refl hw) (Et hr))
 | .ret,h,st,H,R,K,r,hw,hr,F,Q,hI,hK=>Ag.ret (hK H _ st (Nx.refl hw) (Et hr))
 | .exit j,h,st,H,R,K,r,hw,hr,F,Q,hI,hK=>Ag.exit (hK H _ st (Nx.refl hw) (Et hr))
 | .label j,h,st,H,R,K,r,hw,hr,F,Q,hI,hK=>Ag.label (hK H _ st (Nx.refl hw) (Et hr))
 | .scope c,h,st,H,R,K,r,hw,hr,F,Q,hI,hK=>by
   refine Ag.scope (FB abQ aby c h st H R _ r hw (Et hr) F _ hI fun H' e a_ n q=>?_);cases e<;>simp only [P2]at q<;>first
    | (cases q;done)
    | exact hK H' _ a_ n q
 | .block j c,h,st,H,R,K,r,hw,hr,F,Q,hI,hK=>by
   refine Ag.block (FB abQ aby c h st H R _ r hw (Et hr) F _ hI fun H' e a_ n q=>?_);cases e with
   | exit i=>
     simp only [xH]at q;simp only [Co];split at q
     ·rename_i hb;rw [if_pos (eq_of_beq_eq_true hb)];grind
     ·rename_i hb;rw [if_neg (fun e=>by simp_all)];grind
   | _=>exact hK H' _ a_ n q
 | .cond c x y,h,st,H,R,K,r,hw,hr,F,Q,hI,hK=>by
   simp only [Lx]at hr;replace hr:=Et hr;split at hr
   ·rename_i b hb;have hev:=st.abE c;rw [hb]at hev;refine Ag.cond (b:=b) hev (fun e=>?_) (fun e=>?_)
    ·rw [if_pos e]at hr;exact FB abQ aby x h.a st H R K r hw hr F Q hI hK
    ·rw [if_neg (by rw [show (show Bool from b)=b from rfl,e];simp)]at hr;exact FB abQ aby y h.b st H R K r hw hr F Q hI hK
   ·cases hr
 | .region id ops dr,h,st,H,R,K,r,hw,hr,F,Q,hI,hK=>by grind [Lx,AaK,Et]
 | .seq a b,h,st,H,R,K,r,hw,hr,F,Q,hI,hK=>by
   simp only [Lx]at hr;split at hr
   ·rename_i sh ha hb;unfold jn at hr;refine Sj (X:=RT T sh.ts) (fun v=>match sh.inst st (CB sh.ts v)with | some s=>s.toSt | none=>st.toSt) (fun v=> ∃ s,sh.inst st (CB sh.ts v)=some s/\Lx Γ rec b hb s R K=some r) ?_ ?_
    ·refine FB abQ aby a ha st H R _ r hw hr F _ hI fun H' e a_ n q=>?_;cases e<;>grind [xG,Cv,IF.ad4]
    ·rintro v ⟨s,hi,q⟩;rw [hi];obtain⟨H2,n2⟩:=IF.aeq hw (Es _ _) hi;exact FB abQ aby b hb s H2 R K r n2.ok q F Q hI fun H' e a_ n' q'=>hK H' e a_ (n2.trans n') q'
   ·cases hr
   ·refine Ag.seq (FB abQ aby a _ st H R _ r hw hr F _ hI fun H' e a_ n q=>?_);cases e with
    | normal=>exact FB abQ aby b _ a_ H' R K r n.ok q F Q hI fun H'' e aqe n' q'=>hK H'' e aqe (n.trans n') q'
    | _=>exact hK H' _ a_ n q
 | .loop c,h,st,H,R,K,r,hw,hr,F,Q,hI,hK=>by
   simp only [Lx]at hr;split at hr
   ·rename_i sh xs hb;split at hr
    ·rename_i v0 hg0;obtain⟨o,hi,hx⟩:=bS hr;have atH: ∃ s,sh.inst st (CB sh.ts v0)=some s:=by obtain⟨z,hz⟩:=uJ hi;grind
     obtain⟨s0,hs0⟩:=atH;refine It (fun v=>match sh.inst st (CB sh.ts v)with | some s=>s.toSt | none=>st.toSt) hi ?_ fun v z hz ho=>?_
     ·rw [hs0];exact IF.ad4 hw (Nx.refl hw) hg0 hs0
     ·split at hz
      ·rename_i s hs;obtain⟨H2,n2⟩:=IF.aeq hw (Es _ _) hs;have aAH: ∀ (H':Aw T) (e:Exit) (a_:Ai T) (k:Nat),Nx H2 s H' a_->P2 e=some k->xF Sum.inr (uI st a_ k xs)=some z-> ∃ s'',Wk a_.toSt s''/\Q e s'':=by intro H' e a_ k n he q;obtain⟨o',h1,h2⟩:=Vl q;have:=ho o' h2.symm;subst this;obtain⟨s'',H3,w3,n3,k3⟩:=sC (K:=fun k s=>K (qe k) s) hw (n2.trans n) h1 hx;grind [qf]
       have main:=FB abQ aby c hb s H2 _ _ z n2.ok hz F (fun e s'=>match e with
        | .normal => ∃ v',z= .inl v'/\Wk s' (match sh.inst st (CB sh.ts v')with | some s=>s.toSt | none=>st.toSt)
        | e=> ∃ s'',Wk s' s''/\Q e s'') hI fun H' e a_ n q=>by
          cases e with
          | normal=>
            simp only at q;split at q
            ·rename_i v' hg;split at q
             ·rename_i s1 hs1;injection q with q;refine⟨v',q.symm,?_⟩;rw [hs1];exact IF.ad4 hw (n2.trans n) hg hs1
             ·cases q
            ·cases q
          | ret=>grind
          | exit i=>grind
          | goto l=>cases q
          | panic ch=>cases q
          | outgrown=>cases q
       refine Ag.wkQ (main.mono fun e s' q=>?_);cases e with
       | normal=>exact⟨s',Wk.less (Cn.refl _),q⟩
       | _=>exact q
      ·cases hz
    ·cases hr
   ·cases hr
 | .rangeFunc ..,h,st,H,R,K,r,hw,hr,F,Q,hI,hK=>by grind [Lx]
 | .goto _,h,st,H,R,K,r,hw,hr,F,Q,hI,hK=>by grind [Lx]
 | .refuse _,h,st,H,R,K,r,hw,hr,F,Q,hI,hK=>by grind [Lx]
end
end Go.PL
namespace Go.PL
open Go Go.RowKit
variable {T:Bj}
def Mb:(ts:List VT)->XS T ts->List (DV T)
 | [],_=>[]
 | t::ts,x=>Qz t x.1::Mb ts x.2
theorem Vm: ∀ (ts:List VT) (x:XS T ts),Bf (Mb ts x)=F5 ts x
 | [],_=>by simp only [Mb,Bf,F5]
 | t::ts,x=>by simp only [Mb,Bf,F5,PV,Vm ts]
theorem aW {H:Aw T} {n:Nat}: ∀ (ts:List VT) (x:XS T ts),CQ H n (Mb ts x)
 | [],_=>by simp only [Mb,CQ]
 | t::ts,x=>by simp only [Mb,CQ,Sy,aW ts,and_self]
def aX (args:List (DV T)) (n:Nat):Ai T:=Gz 0 args ⟨n,[],[],[],[],0⟩
theorem gn {args:List (DV T)} {n:Nat} (ha: ∀ H:Aw T,CQ H 0 args): ∃ H,AJ H (aX args n):=by let H0:Aw T:=⟨fun _=> .u,fun _=>⟨[],0, .box []⟩⟩;have h0:AJ H0 (⟨n,[],[],[],[],0⟩:Ai T):=⟨fun _ _ _ hm=>by simp at hm,(by grind),(by grind),by simp⟩;obtain⟨H,hN⟩:=Rm (i:=0) (Nx.refl h0) (ha H0);exact⟨H,hN.ok⟩
theorem W5 {args:List (DV T)} {n:Nat} (hl:args.length<=n):(aX args n).toSt =St.start (Bf args) n:=by obtain⟨a,b,c,d⟩:=M0 args 0 (⟨n,[],[],[],[],0⟩:Ai T);unfold aX;simp only [Ai.toSt,a,b,c,d,St.start,map_nil,List.flatMap_nil];rw [ay hl];intro j;rw [Rn];simp only [zero_le,true_and,zero_add,Nat.sub_zero];rfl
section
variable {H:Aw T} {P:Program} {I:World->Prop} {st:Ai T}
def Ad2 (P:Program) (st:Ai T) (t:VT) (x:ResultVar):M (Eo T t):= .Q_ (WV P st x) fun v=>match iV st v with
 | some w=> .sm (wX t w)
 | none=> .no
def gp (P:Program) (st:Ai T):(ts:List VT)->List ResultVar->M (RT T ts)
 | [],[]=> .ret ()
 | [t],[x]=>Ad2 P st t x
 | t::u::ts,x::xs=> .Q_ (Ad2 P st t x) fun a=> .Q_ (gp P st (u::ts) xs) fun b=> .ret (a,b)
 | _,_=> .no
theorem uK (x:ResultVar) (s:St):Sf P s x=((Qk P s x).1,BC s (Qk P s x).2):=by cases x<;>rfl
theorem sD (hw:AJ H st) (t:VT) (x:ResultVar):Yl (Ad2 P st t x) (fun r=>(Sf P st.toSt x).1/\(Sf P st.toSt x).2=Ep t r):=
 Yl.Q_ (Ki hw x) fun v hv=>by
  obtain⟨a,b,c⟩:=hv;split
  ·rename_i w hs;refine Yl.sm fun r hr=>?_;rw [uK];exact⟨b,by simp only;rw [c,WS hs,Z7 hr]⟩
  ·exact Yl.no
theorem mB (hw:AJ H st): ∀ (ts:List VT) (xs:List ResultVar),Yl (gp P st ts xs) (fun r=>(FZ P st.toSt xs).1/\(FZ P st.toSt xs).2=Cp ts r/\xs.length=ts.length)
 | [],[]=>Yl.ret ⟨trivial,by simp only [FZ,Cp],rfl⟩
 | [t],[x]=>(sD hw t x).mono fun r h=>⟨⟨h.1,trivial⟩,congrArg (fun z=>[z]) h.2,rfl⟩
 | t::u::ts,x::xs=>Yl.Q_ (sD hw t x) fun a ha=>Yl.Q_ (mB hw (u::ts) xs) fun b hb=>Yl.ret (by
   simp_all [FZ,Cp])
 | [],_::_=>Yl.no
 | [_],[]=>Yl.no
 | [_],_::_::_=>Yl.no
 | _::_::_,[]=>Yl.no
theorem Ad3 (hw:AJ H st) {ts:List VT} {xs:List ResultVar}:Yl (gp P st ts xs) (fun r=>(DF P st.toSt xs).1/\(DF P st.toSt xs).2=I9 ts r):=
 (mB hw ts xs).mono fun r h=>by
  obtain⟨h1,h2,h3⟩:=h
  match ts,xs,r,h1,h2,h3 with
  | [],[],r,h1,h2,_=>grind [DF,I9,Cp]
  | [t],[x],r,h1,h2,_=>
    simp only [FZ]at h1 h2;refine⟨h1.1,?_⟩;have:[(Sf P st.toSt x).2]=[Ep t r]:=h2;injection this
  | t::u::ts,x::y::xs,r,h1,h2,_=>grind [DF,I9]
  | [],_::_,_,_,_,h3=>simp at h3
  | [_],[],_,_,_,h3=>simp at h3
  | [_],_::_::_,_,_,_,h3=>simp at h3
  | _::_::_,[],_,_,_,h3=>simp at h3
  | _::_::_,[_],_,_,_,h3=>simp at h3
theorem W6: ∀ (ts:List VT) (x:RT T ts),Ci (Cp ts x)=true
 | [],_=>by simp only [Cp,Ci]
 | [t],x=>by simp only [Cp,Ci,Bool.and_true];exact Dk t x
 | t::u::ts,x=>by simp only [Cp,Ci,Dk,W6 (u::ts),Bool.and_self]
theorem gq: ∀ (ts:List VT) (x:RT T ts),(I9 ts x).pure =true
 | [],_=>by simp only [I9,V.pure,Ci]
 | [t],x=>Dk t x
 | t::u::ts,x=>by grind [I9,V.pure,W6]
def xI (Γ:List (CE T P I)):Nat->uC T
 | 0=>fun _ _ _ _ _=>none
 | n+1=>fun R c h st K=>Lx Γ (xI Γ n) c h st R K
theorem jt {Γ:List (CE T P I)} (abQ:P.follows .mixedOrders =true): ∀ n,mw P I (xI Γ n)
 | 0=>fun _ _ _ _ _ _ _ _ hr=>by simp [xI]at hr
 | n+1=>fun R c h st H K r hw hr F Q hI hK=>FB abQ (jt abQ n) c h st H R K r hw hr F Q hI hK
def AfR (P:Program) (rs:List VT) (xs:List ResultVar) (e:Exit) (st:Ai T):Option (RT T rs):=match e with
 | .normal =>gp P st rs xs _ some
 | .ret =>gp P st rs xs _ some
 | _=>none
def xJ (Γ:List (CE T P I)) (n:Nat) (fn:Func) (body:Code) (h:Hn) (ps rs:List VT) (x:XS T ps):Option (RT T rs):=
 match Nat.ble (Mb ps x).length fn.ntmps with
 | true=>Lx Γ (xI Γ n) body h (aX (Mb ps x) fn.ntmps) (RT T rs) (AfR P rs fn.results.toList)
 | false=>none
theorem AfS {Γ:List (CE T P I)} (agp:JS I) (abQ:P.follows .mixedOrders =true) {n:Nat} {f:FuncId} {fn:Func} {body:Code} (hf:P.funcs[f]? =some fn) (hb:fn.body=some body) (abR:PL.ent P f=true) {h:Hn} {ps rs:List VT} {x:XS T ps} {r:RT T rs}
 (hr:xJ Γ n fn body h ps rs x=some r):Ce P I f (F5 ps x) (· =I9 rs r):=by
 unfold xJ at hr;split at hr
 ·rename_i hl;obtain⟨H,hw⟩:=gn (args:=Mb ps x) (n:=fn.ntmps) (fun H=>aW ps x);refine Ce.of agp abR hf hb fun F hI=>?_;rw [<-Vm, <-W5 (by simp_all)];refine FB abQ (jt abQ n) body h _ H _ _ r hw hr F _ hI fun H' e a_ n q=>?_;have fin:gp P a_ rs fn.results.toList _ some=some r->(DF P a_.toSt fn.results.toList).1/\(DF P a_.toSt fn.results.toList).2.pure =true/\(DF P a_.toSt fn.results.toList).2=I9 rs r:=by intro q;obtain⟨v,⟨h1,h2⟩,h3⟩:=Ad3 n.ok _ _ r q;grind [gq]
  cases e<;>simp only [AfR,rC]at q ⊢ <;>first
   | exact fin q
   | grind
 ·cases hr
def AA (Γ:List (CE T P I)) (agp:JS I) (abQ:P.follows .mixedOrders =true) (n:Nat) (f:FuncId) (fn:Func) (body:Code) (h:Hn) (ps rs:List VT) (run:XS T ps->Option (RT T rs)) (hf:P.funcs[f]? =some fn) (hb:fn.body=some body)
    (heq:run=xJ Γ n fn body h ps rs) (abR:PL.ent P f=true:=by kernel_rfl):CE T P I where
 f:=f
 ps:=ps
 rs:=rs
 run:=run
 ok:=fun x r q=>AfS (h:=h) agp abQ hf hb abR (by rw [<-heq];exact q)
end
end Go.PL
namespace Go.PL
theorem Mc {a b:Prop} (h:a=b) (p:a):b:=h▸p
end Go.PL
namespace Go.PL
open Go Go.RowKit
structure Hp where
 den:Type
 inh:Inhabited den
 enc:den->List C
 ks:List Kd
def Hp.unit:Hp:=⟨Unit,⟨()⟩,fun _=>[],[]⟩
def SM:List (Nat×Hp)->Nat->Hp
 | [],_=> .unit
 | (k,r)::l,E=>match Nat.beq k E with
   | true=>r
   | false=>SM l E
structure Or (R:Nat->Hp) where
 E:Nat
 un:(R E).den ->DK (fun E=>(R E).den) (R E).ks
 bd:DK (fun E=>(R E).den) (R E).ks ->(R E).den
 beq:(R E).den ->(R E).den ->Bool
 aev: ∀ y,un (bd y)=y
 aa0: ∀ x,BD (fun E=>(R E).enc) (R E).ks (un x)=(R E).enc x
 ah4: ∀ x y,beq x y=BT ((R E).enc x) ((R E).enc y)
def mC {R:Nat->Hp}:List (Or R)->(E:Nat)->Option {e:Or R // e.E=E}
 | [],_=>none
 | e::l,E=>match Nat.decEq e.E E with
   | .isTrue h=>some ⟨e,h⟩
   | .isFalse _=>mC l E
theorem FM {R:Nat->Hp}: ∀ {L1:List (Or R)} {L0:List (Nat×Hp)} {E:Nat},L1.map (·.E)=L0.map (·.1)->mC L1 E=none->SM L0 E= .unit
 | [],[],_,_,_=>rfl
 | [],_::_,_,h,_=>by simp at h
 | _::_,[],_,h,_=>by simp at h
 | e::L1,(k,r)::L0,E,h,hf=>by
   simp only [map_cons,List.cons.injEq]at h;unfold mC at hf;split at hf
   ·cases hf
   ·rename_i hne _;have:Nat.beq k E=false:=by
     cases hb:Nat.beq k E with
     | false=>rfl
     | true=>exact absurd (h.1.trans (eq_of_beq_eq_true hb)) hne
    simp only [SM,this];exact FM h.2 hf
inductive af3 (R:Nat->Hp) (E:Nat) where
 | some (e:Or R) (h:e.E=E)
 | none (h:R E=Hp.unit)
def uL {R:Nat->Hp} (L1:List (Or R)) (hn: ∀ E,mC L1 E=none->R E= .unit) (E:Nat):af3 R E:=match h:mC L1 E with
 | some e=> .some e.1 e.2
 | none=> .none (hn E h)
section
variable {R:Nat->Hp} {E:Nat}
def af3.un:af3 R E->(R E).den ->DK (fun E=>(R E).den) (R E).ks
 | .some e h=>h▸e.un
 | .none h=>fun _=>h▸(():DK (fun E=>(R E).den) Hp.unit.ks)
def af3.bd:af3 R E->DK (fun E=>(R E).den) (R E).ks ->(R E).den
 | .some e h=>h▸e.bd
 | .none h=>fun _=>h▸(():Hp.unit.den)
def af3.beq:af3 R E->(R E).den ->(R E).den ->Bool
 | .some e h=>h▸e.beq
 | .none _=>fun _ _=>true
theorem af3.aev (s:af3 R E) (y:DK (fun E=>(R E).den) (R E).ks):s.un (s.bd y)=y:=by
 cases s with
 | some e h=>cases h;exact e.aev y
 | none h=>
   show h▸(():DK (fun E=>(R E).den) Hp.unit.ks)=y;have: ∀ (D:Nat->Type) (r:Hp) (h:r=Hp.unit) (y:DK D r.ks),h▸(():DK D Hp.unit.ks)=y:=by intro D r h y;subst h;rfl
   exact this _ _ h y
theorem af3.aa0 (s:af3 R E) (x:(R E).den):BD (fun E=>(R E).enc) (R E).ks (s.un x)=(R E).enc x:=by
 cases s with
 | some e h=>cases h;exact e.aa0 x
 | none h=>
   have: ∀ (r:Hp) (h:r=Hp.unit) (x:r.den) (z:DK (fun E=>(R E).den) r.ks),BD (fun E=>(R E).enc) r.ks z=r.enc x:=by intro r h x z;subst h;rfl
   grind
theorem af3.ah4 (s:af3 R E) (x y:(R E).den):s.beq x y=BT ((R E).enc x) ((R E).enc y):=by
 cases s with
 | some e h=>cases h;exact e.ah4 x y
 | none h=>
   show true=_;have: ∀ (r:Hp) (h:r=Hp.unit) (x y:r.den),true=BT (r.enc x) (r.enc y):=by intro r h x y;subst h;rfl
   grind
end
def Ad4 (L0:List (Nat×Hp)) (L1:List (Or (SM L0))) (hk:L1.map (·.E)=L0.map (·.1)):Bj where
 den E:=(SM L0 E).den
 inh E:=(SM L0 E).inh
 enc E:=(SM L0 E).enc
 ks E:=(SM L0 E).ks
 un E:=(uL L1 (fun _ h=>FM hk h) E).un
 bd E:=(uL L1 (fun _ h=>FM hk h) E).bd
 beq E:=(uL L1 (fun _ h=>FM hk h) E).beq
 aev E:=(uL L1 (fun _ h=>FM hk h) E).aev
 aa0 E:=(uL L1 (fun _ h=>FM hk h) E).aa0
 ah4 E:=(uL L1 (fun _ h=>FM hk h) E).ah4
end Go.PL
set_option linter.all false
namespace Go.PL
open Go Go.RowKit
variable {T:Bj}
def qg (st:Ai T) (id:Ak):Option ((E:Nat)×(Int×List (T.den E))):=match Fj id&& !Dh id with
 | false=>none
 | true=>match G6 st.so id with
   | some e=>match e.x with
     | .deep E n l none=>some ⟨E,(n,l)⟩
     | _=>none
   | none=>none
theorem mD {st:Ai T} {id:Ak} {E:Nat} {n:Int} {l:List (T.den E)} (h:qg st id=some ⟨E,(n,l)⟩):Fj id=true/\Dh id=false/\ ∃ e∈st.so,e.id=id/\e.x= .deep E n l none:=by
 unfold qg at h;split at h
 ·cases h
 ·rename_i hd;simp only [and_eq_true,not_eq_true']at hd;split at h
  ·rename_i e he;split at h
   ·rename_i E' n' l' hx;injection h with h;injection h with h1 h2;subst h1;have h2:=eq_of_heq h2;grind [CT]
   ·cases h
  ·cases h
def xK (k:Kd) (c:DC T):M (PT T.den k×List Ak):= .Q_ (.sm (IW true k c)) fun x=> .ret (x,[])
def AaL (st:Ai T) (m:Nat) (k:Kd) (c:DC T):M (PT T.den k×List Ak):=match k with
 | .u_ E=>match m with
   | 1=>match K3 c with
     | some id=>match DO st id with
       | some ⟨E',l⟩=> .Q_ (.sm (f0 E E' l)) fun l'=> .ret (l',[id])
       | none=> .no
     | none=> .no
   | 2=>match K3 c with
     | some id=>match qg st id with
       | some ⟨E',(n,l)⟩=> .opt (n_ (n=(List.length l:Nat))) fun _=> .Q_ (.sm (f0 E E' l)) fun l'=> .ret (l',[id])
       | none=> .no
     | none=> .no
   | _=>xK (.u_ E) c
 | k=>xK k c
def AaM (st:Ai T):List Nat->(ks:List Kd)->List (DC T)->M (DK T.den ks×List Ak)
 | m::ms,k::ks,c::cs=> .Q_ (AaL st m k c) fun a=> .Q_ (AaM st ms ks cs) fun b=> .ret ((a.1,b.1),a.2++b.2)
 | [],k::ks,c::cs=> .Q_ (xK k c) fun a=> .Q_ (AaM st [] ks cs) fun b=> .ret ((a.1,b.1),b.2)
 | _,[],[]=> .ret ((),[])
 | _,_,_=> .no
def qh (st:Ai T) (m:List Nat):(t:VT)->DV T->M (Eo T t×List Ak)
 | .k kd,v=>match asC v with
   | some c=>AaL st (m.headD 0) kd c
   | none=> .no
 | .s E,v=>match asA v with
   | some cs=> .Q_ (AaM st m (T.ks E) cs) fun a=> .ret (T.bd E a.1,a.2)
   | none=> .no
 | .f _,_=> .no
def uM (P:Program) (st:Ai T):List (List Nat)->(ts:List VT)->List ResultVar->M (RT T ts×List Ak)
 | m::_,[t],[x]=> .Q_ (WV P st x) fun v=>qh st m t v
 | [],[t],[x]=> .Q_ (WV P st x) fun v=>qh st [] t v
 | m::ms,t::u::ts,x::xs=> .Q_ (WV P st x) fun v=> .Q_ (qh st m t v) fun a=> .Q_ (uM P st ms (u::ts) xs) fun b=> .ret ((a.1,b.1),a.2++b.2)
 | [],t::u::ts,x::xs=> .Q_ (WV P st x) fun v=> .Q_ (qh st [] t v) fun a=> .Q_ (uM P st [] (u::ts) xs) fun b=> .ret ((a.1,b.1),a.2++b.2)
 | _,_,_=> .no
structure oB (st:Ai T) (os:List OE) (ids:List Ak) (n:Nat):Prop where
 len:os.length=n/\ids.length=n
 ns:KL os ids=true
 so: ∀ e∈CU os ids,e∈st.toSt.so
theorem oB.nil {st:Ai T}:oB st [] [] 0:=⟨⟨rfl,rfl⟩,rfl,fun _ h=>by simp [CU]at h⟩
theorem oB.append {st:Ai T} {a b:List OE} {i j:List Ak} {n m:Nat} (h:oB st a i n) (k:oB st b j m):oB st (a++b) (i++j) (n+m):=by
 have e:a.length=i.length:=h.len.1.trans h.len.2.symm;refine⟨⟨by simp [h.len.1,k.len.1],by simp [h.len.2,k.len.2]⟩,K6 h.ns k.ns,fun x hx=>?_⟩;rw [Jb e]at hx;rcases List.mem_append.1 hx with hx | hx
 ·exact h.so x hx
 ·exact k.so x hx
theorem Kk: ∀ (ks:List Kd) (x:DK T.den ks),Cq [] ks x=[]
 | [],_=>rfl
 | _::_,_=>rfl
theorem uN (ks:List Kd):Fq [] ks=0:=by cases ks<;>rfl
theorem sE {k:Kd} {c:DC T}:Yl (xK k c) (fun a=>a.2=[]/\ ∀ (w:World) (G:AG) (v:Value),Ah w G c.toC v->Ah w G (Bz T.enc k a.1) v):=
 Yl.Q_ (Yl.sm fun x hx=>(CR hx).1) fun x hx=>Yl.ret ⟨rfl,(by grind [Jp])⟩
theorem sF {st:Ai T} {H:Aw T} (hw:AJ H st) (m:Nat) (k:Kd) (c:DC T):Yl (AaL st m k c) (fun a=>oB st (Kg m k a.1) a.2 (Qp m k)/\
 ∀ (pre post:List Ak) (w:World) (G:AG) (v:Value),Ah w G c.toC v->Ah w G ((QA m pre.length k a.1).toC (pre++(a.2++post))) v):=by
 have fr: ∀ (k:Kd) (c:DC T),(∀ x,Kg (T:=T) m k x=[])->Qp m k=0->Yl (xK k c) (fun a=>oB st (Kg m k a.1) a.2 (Qp m k)/\
  ∀ (pre post:List Ak) (w:World) (G:AG) (v:Value),Ah w G c.toC v->Ah w G ((QA m pre.length k a.1).toC (pre++(a.2++post))) v):=fun k c h1 h2=>by
  refine sE.mono fun a ⟨q1,q2⟩=>⟨by grind [oB.nil],fun pre post w G v h=>?_⟩;unfold QA;rw [h2];exact q2 w G v h
 have own: ∀ (E:Nat) (id:Ak) (e:DE T) (dp:Bool) (l:List (T.den E)) (cs:List C),K3 c=some id->e∈st.so->e.id=id->Fj id=dp->Dh id=false->e.toE=⟨id,some (E,T.sz E,l.length),cs,true⟩->
  oB st [⟨dp,E,T.sz E,l.length,cs⟩] [id] 1/\ ∀ (pre post:List Ak) (w:World) (G:AG) (v:Value),Ah w G c.toC v->Ah w G (PC.toC (pre++([id]++post)) (.o pre.length)) v:=by
  intro E id e dp l cs ho hm hid hd hmk hE;refine⟨⟨⟨rfl,rfl⟩,by simp [KL,hd,hmk],fun x hx=>?_⟩,fun pre post w G v h=>?_⟩
  ·simp only [CU,mem_singleton]at hx;subst hx;have:(⟨dp,E,T.sz E,l.length,cs⟩:OE).ent id=e.toE:=by rw [hE];rfl
   rw [this];exact mem_map.2 ⟨e,hm,rfl⟩
  ·simp only [PC.toC,xb];rw [Em ho]at h;grind [DC.toC]
 unfold AaL;cases k with
 | u_ E=>
   match m with
   | 0=>exact fr (.u_ E) c (fun _=>rfl) rfl
   | _+3=>exact fr (.u_ E) c (fun _=>rfl) rfl
   | 1=>
     simp only;split
     ·rename_i id ho;split
      ·rename_i E' l hr;refine Yl.Q_ (Yl.sm fun x hx=>hx) fun l' hl=>Yl.ret ?_;obtain⟨e,rfl⟩:=M4 hl;subst e;obtain⟨h1,_,d,h2,h3,h4⟩:=BU hr;have hE:=DE.toE_row h4;rw [h3]at hE;exact own E' id d false l _ ho h2 h3 (FA h1) (by
        have:=hw;unfold DO Ai.look at hr;cases hq:Dh id with
        | false=>rfl
        | true=>simp [hq]at hr) hE
      ·exact Yl.no
     ·exact Yl.no
   | 2=>
     simp only;split
     ·rename_i id ho;split
      ·rename_i E' n l hr;refine Yl.opt fun u hu=>Yl.Q_ (Yl.sm fun x hx=>hx) fun l' hl=>Yl.ret ?_;obtain⟨e,rfl⟩:=M4 hl;subst e;obtain⟨h1,h1',d,h2,h3,h4⟩:=mD hr;have hn:n=(l.length:Int):=Cz hu;have hE:d.toE=⟨id,some (E',T.sz E',l.length),AC T E' (List.length l:Nat) 0 l,true⟩:=by unfold DE.toE;rw [h4,h3];subst hn;rfl
       exact own E' id d true l _ ho h2 h3 h1 h1' hE
      ·exact Yl.no
     ·exact Yl.no
 | int k=>exact fr (.int k) c (fun _=>rfl) rfl
 | bool=>exact fr .bool c (fun _=>rfl) rfl
 | str=>exact fr .str c (fun _=>rfl) rfl
theorem ju {st:Ai T} {H:Aw T} (hw:AJ H st): ∀ (ms:List Nat) (ks:List Kd) (cs:List (DC T)),Yl (AaM st ms ks cs) (fun a=>oB st (Cq ms ks a.1) a.2 (Fq ms ks)/\
 ∀ (pre post:List Ak) (w:World) (G:AG) (vs:List Value),Al w G (As cs) vs->Al w G ((Fp ms pre.length ks a.1).map (PC.toC (pre++(a.2++post)))) vs)
 | [],[],[]=>Yl.ret ⟨oB.nil,(by grind [As,Fp])⟩
 | _::_,[],[]=>Yl.ret ⟨oB.nil,(by grind [As,Fp])⟩
 | m::ms,k::ks,c::cs=>Yl.Q_ (sF hw m k c) fun a ha=>Yl.Q_ (ju hw ms ks cs) fun b hb=>Yl.ret (by
   refine⟨ha.1.append hb.1,fun pre post w G vs h=>?_⟩;cases vs with
   | nil=>simp [As,Al]at h
   | cons v vs=>
     simp only [As,Al]at h;simp only [Fp,map_cons,Al];have h2:=hb.2 (pre++a.2) post w G vs h.2;rw [length_append,ha.1.len.2]at h2;grind)
 | [],k::ks,c::cs=>Yl.Q_ sE fun a ha=>Yl.Q_ (ju hw [] ks cs) fun b hb=>Yl.ret (by
   refine⟨hb.1,fun pre post w G vs h=>?_⟩;cases vs<;>grind [As,Al,Fp,PC.toC])
 | [],[],_::_=>Yl.no
 | _::_,[],_::_=>Yl.no
 | [],_::_,[]=>Yl.no
 | _::_,_::_,[]=>Yl.no
theorem YL {st:Ai T} {H:Aw T} (hw:AJ H st) (m:List Nat) (t:VT) (v:DV T):Yl (qh st m t v) (fun a=>oB st (Cq m (Fe T t) (OV t a.1)) a.2 (Fq m (Fe T t))/\
 ∀ (pre post:List Ak) (w:World) (G:AG) (u:Value),Ae w G v.toV u->Ae w G ((IZ m pre.length t a.1).toV (pre++(a.2++post))) u):=by
 cases t with
 | k kd=>
   simp only [qh];split
   ·rename_i c hc;rw [Z5 hc];refine(sF hw (m.headD 0) kd c).mono fun a ⟨h1,h2⟩=>?_;have e1:Cq m [kd] ((a.1,()):DK T.den [kd])=Kg (m.headD 0) kd a.1:=by
     cases m with
     | nil=>simp only [Cq,headD_nil];unfold Kg;grind
     | cons x m=>grind [Cq]
    have e2:Fq m [kd]=Qp (m.headD 0) kd:=by
     cases m with
     | nil=>simp only [Fq,headD_nil];unfold Qp;grind
     | cons x m=>cases m<;>simp [Fq]
    refine⟨by show oB st (Cq m [kd] ((a.1,()):DK T.den [kd])) a.2 (Fq m [kd]);grind,fun pre post w G u h=>?_⟩;grind [DV.toV,Ae,IZ,PP.toV]
   ·exact Yl.no
 | s E=>
   simp only [qh];split
   ·rename_i cs hc;rw [Z6 hc];refine Yl.Q_ (ju hw m (T.ks E) cs) fun a ⟨h1,h2⟩=>Yl.ret ⟨?_,fun pre post w G u h=>?_⟩
    ·simp only [Fe,OV,T.aev];exact h1
    ·simp only [DV.toV,Ae]at h;obtain⟨arr,e,h⟩:=h;simp only [IZ,PP.toV,Ae,T.aev];grind
   ·exact Yl.no
 | f g=>exact Yl.no
theorem jv {P:Program} {st:Ai T} {H:Aw T} (hw:AJ H st): ∀ (ow:List (List Nat)) (ts:List VT) (xs:List ResultVar),Yl (uM P st ow ts xs) (fun a=>(CF P st.toSt xs).1/\(∃ n,oB st (Dr ow ts a.1) a.2 n)/\xs.length=ts.length/\
 ∀ (pre post:List Ak) (w:World) (G:AG) (us:List Value),Aq w G (CF P st.toSt xs).2 us->Aq w G ((B2 ow pre.length ts a.1).map (PP.toV (pre++(a.2++post)))) us)
 | m::ms,[t],[x]=>Yl.Q_ (Ki hw x) fun v hv=>(YL hw m t v).mono fun a ha=>by obtain⟨v1,v2,v3⟩:=hv;refine⟨⟨v2,trivial⟩,(by grind [Dr]),rfl,fun pre post w G us h=>?_⟩;simp only [CF,Aq]at h;obtain⟨u,r,rfl,h1,rfl⟩:=h;rw [v3]at h1;simp only [B2,map_cons,map_nil,Aq];grind
 | [],[t],[x]=>Yl.Q_ (Ki hw x) fun v hv=>(YL hw [] t v).mono fun a ha=>by obtain⟨v1,v2,v3⟩:=hv;have e1:Cq [] (Fe T t) (OV t a.1)=[]:=Kk _ _;rw [e1]at ha;refine⟨⟨v2,trivial⟩,(by grind [Dr]),rfl,fun pre post w G us h=>?_⟩;simp only [CF,Aq]at h;obtain⟨u,r,rfl,h1,rfl⟩:=h;rw [v3]at h1;simp only [B2,map_cons,map_nil,Aq];grind
 | m::ms,t::u::ts,x::xs=>Yl.Q_ (Ki hw x) fun v hv=>Yl.Q_ (YL hw m t v) fun a ha=>Yl.Q_ (jv hw ms (u::ts) xs) fun b hb=>Yl.ret (by
   obtain⟨v1,v2,v3⟩:=hv;obtain⟨b1,⟨n,b2⟩,b3,b4⟩:=hb;refine⟨⟨v2,b1⟩,⟨_,by simp only [Dr];exact ha.1.append b2⟩,by grind,fun pre post w G us h=>?_⟩;simp only [CF,Aq]at h;obtain⟨u',r,rfl,h1,h2⟩:=h;rw [v3]at h1;have h3:=b4 (pre++a.2) post w G r h2;rw [length_append,ha.1.len.2]at h3;simp only [B2,map_cons,Aq,append_assoc]at h3 ⊢;grind)
 | [],t::u::ts,x::xs=>Yl.Q_ (Ki hw x) fun v hv=>Yl.Q_ (YL hw [] t v) fun a ha=>Yl.Q_ (jv hw [] (u::ts) xs) fun b hb=>Yl.ret (by
   obtain⟨v1,v2,v3⟩:=hv;obtain⟨b1,⟨n,b2⟩,b3,b4⟩:=hb;have e1:Cq [] (Fe T t) (OV t a.1)=[]:=Kk _ _;have e2:Fq [] (Fe T t)=0:=uN _;rw [e1,e2]at ha;have e3:a.2=[]:=List.length_eq_zero_iff.1 ha.1.len.2;refine⟨⟨v2,b1⟩,(by grind [Dr]),by grind,fun pre post w G us h=>?_⟩;simp only [CF,Aq]at h;obtain⟨u',r,rfl,h1,h2⟩:=h;rw [v3]at h1;have h3:=b4 pre post w G r h2;have h4:=ha.2 pre (b.2++post) w G u' h1;rw [e3]at h4;simp only [B2,map_cons,Aq,e3,nil_append]at h3 h4 ⊢;grind)
 | [],[],[]=>Yl.no
 | [],[],_::_=>Yl.no
 | _::_,[],[]=>Yl.no
 | _::_,[],_::_=>Yl.no
 | [],[_],[]=>Yl.no
 | _::_,[_],[]=>Yl.no
 | [],[_],_::_::_=>Yl.no
 | _::_,[_],_::_::_=>Yl.no
 | [],_::_::_,[]=>Yl.no
 | _::_,_::_::_,[]=>Yl.no
section
variable {P:Program} {I:World->Prop}
def Acs (P:Program) (ow:List (List Nat)) (rs:List VT) (xs:List ResultVar) (e:Exit) (st:Ai T):Option (RT T rs):=match e with
 | .normal =>uM P st ow rs xs _ fun a=>match MS a.2 with
   | true=>some a.1
   | false=>none
 | .ret =>uM P st ow rs xs _ fun a=>match MS a.2 with
   | true=>some a.1
   | false=>none
 | _=>none
def qi (Γ:List (CE T P I)) (n:Nat) (fn:Func) (body:Code) (h:Hn) (ow:List (List Nat)) (ps rs:List VT) (x:XS T ps):Option (RT T rs):=
 match Nat.ble (Mb ps x).length fn.ntmps with
 | true=>Lx Γ (xI Γ n) body h (aX (Mb ps x) fn.ntmps) (RT T rs) (Acs P ow rs fn.results.toList)
 | false=>none
theorem xL (m:Nat) (k:Kd) (x:PT T.den k):(PC.c (Bz T.enc k x)).ok m=true:=by have:=Dk (T:=T) (.k k) x;grind [Ep,V.pure,PC.ok]
theorem mE (m j:Nat) (k:Kd) (x:PT T.den k) (M:Nat) (h:j+Qp m k<=M):(QA m j k x).ok M=true:=by grind [QA,xL,PC.ok,blt_eq]
theorem aY: ∀ (ms:List Nat) (j:Nat) (ks:List Kd) (x:DK T.den ks) (M:Nat),j+Fq ms ks<=M->(Fp ms j ks x).all (PC.ok M)=true
 | [],_,[],_,_,_=>rfl
 | _::_,_,[],_,_,_=>rfl
 | [],j,k::ks,x,M,h=>by
   have e:Fq [] ks=0:=by cases ks<;>rfl
   simp only [Fp,all_cons,xL,Bool.true_and];exact aY [] j ks x.2 M (by simp only [Fq]at h;omega)
 | m::ms,j,k::ks,x,M,h=>by simp only [Fq]at h;simp only [Fp,all_cons,and_eq_true];exact⟨mE m j k x.1 M (by omega),aY ms (j+Qp m k) ks x.2 M (by omega)⟩
theorem SN (m:List Nat) (j:Nat) (t:VT) (x:Eo T t) (M:Nat) (h:j+Fq m (Fe T t)<=M):(IZ m j t x).ok M=true:=by
 cases t with
 | k kd=>
   simp only [IZ,PP.ok];refine mE _ _ _ _ _ ?_;cases m with
   | nil=>simp only [headD_nil];unfold Qp;grind
   | cons a m=>grind [Fe,Fq]
 | s E=>exact aY _ _ _ _ _ h
 | f g=>rfl
theorem Ru (ms:List Nat) (ks:List Kd) (x:DK T.den ks):(Cq ms ks x).length =Fq ms ks:=by obtain⟨a,b⟩:=M2 ms 0 [] ks x;rw [a,b]
theorem aZ: ∀ (ow:List (List Nat)) (j:Nat) (ts:List VT) (x:RT T ts) (M:Nat),j+(Dr ow ts x).length <=M->(B2 ow j ts x).all (PP.ok M)=true
 | [],_,[],_,_,_=>rfl
 | _::_,_,[],_,_,_=>rfl
 | [],j,[t],x,M,h=>by simp only [B2,all_cons,all_nil,Bool.and_true];grind [SN,Fq]
 | m::ms,j,[t],x,M,h=>by simp only [B2,all_cons,all_nil,Bool.and_true];grind [Dr,Ru,SN]
 | [],j,t::u::ts,x,M,h=>by
   simp only [B2,all_cons,and_eq_true]
   exact⟨SN [] j t x.1 M (by have:Fq [] (Fe T t)=0:=by cases Fe T t<;>rfl
                             omega),aZ [] j (u::ts) x.2 M (by have e:Dr [] (u::ts) x.2=[]:=by cases ts<;>rfl
                                                              rw [e];simp only [List.length_nil];omega)⟩
 | m::ms,j,t::u::ts,x,M,h=>by simp only [Dr,length_append,Ru]at h;simp only [B2,all_cons,and_eq_true];exact⟨SN m j t x.1 M (by omega),aZ ms _ (u::ts) x.2 M (by omega)⟩
theorem gu {P:Program} {st:St} {xs:List ResultVar} {w:World} {G:AG} {v:Value} {ps:List PP} {ids:List Ak} (hl:ps.length=xs.length) (hs:(CF P st xs).1) (h: ∀ us,Aq w G (CF P st xs).2 us->Aq w G (ps.map (PP.toV ids)) us):(Cy P st xs).1/\(Ae w G (Cy P st xs).2 v->Ae w G (Om ids ps) v):=by
 match xs,ps,hl,hs,h with
 | [x],[p],_,hs,h=>
   refine⟨hs.1,fun hv=>?_⟩;have:=h [v] (by simp only [CF,Aq];exact⟨v,[],rfl,hv,rfl⟩);simp only [map_cons,map_nil,Aq]at this;obtain⟨v',r,e,h1,rfl⟩:=this;injection e with e _;subst e;exact h1
 | [],[],_,hs,h=>simp_all [Cy,CF,Om]
 | x::y::xs,p::q::ps,_,hs,h=>
   grind [Cy,Ae,Om]
theorem GE: ∀ (ow:List (List Nat)) (j:Nat) (ts:List VT) (x:RT T ts),(B2 ow j ts x).length =ts.length
 | [],_,[],_=>rfl
 | _::_,_,[],_=>rfl
 | [],j,[t],x=>rfl
 | m::ms,j,[t],x=>rfl
 | [],j,t::u::ts,x=>by simp only [B2,length_cons,GE [] j (u::ts) x.2]
 | m::ms,j,t::u::ts,x=>by simp only [B2,length_cons,GE ms _ (u::ts) x.2]
theorem xM {Γ:List (CE T P I)} (agp:JS I) (abQ:P.follows .mixedOrders =true) {n:Nat} {f:FuncId} {fn:Func} {body:Code} (hf:P.funcs[f]? =some fn) (hb:fn.body=some body) (abR:PL.ent P f=true) {h:Hn} {ow:List (List Nat)} {ps rs:List VT} {x:XS T ps} {r:RT T rs}
 (hr:qi Γ n fn body h ow ps rs x=some r):MV P I f (F5 ps x) (Dr ow rs r) (B2 ow 0 rs r):=by
 unfold qi at hr;split at hr
 ·rename_i hl;obtain⟨H,hw⟩:=gn (args:=Mb ps x) (n:=fn.ntmps) (fun H=>aW ps x);refine MV.of agp abR hf hb (aZ _ _ _ _ _ (by simp)) fun F hI=>?_;rw [<-Vm, <-W5 (by simp_all)];refine FB abQ (jt abQ n) body h _ H _ _ r hw hr F _ hI fun H' e a_ n q=>?_;have fin:uM P a_ ow rs fn.results.toList _ (fun a=>match MS a.2 with | true=>some a.1 | false=>none)=some r->Afx P a_.toSt fn.results.toList (Dr ow rs r) (B2 ow 0 rs r):=by
   intro q;obtain⟨a,⟨h1,⟨k,h2⟩,h3,h4⟩,h5⟩:=jv n.ok ow rs fn.results.toList _ _ r q;split at h5
   ·rename_i hnd;injection h5 with h5;subst h5;have hlen:(B2 ow 0 rs a.1).length =fn.results.toList.length:=by rw [GE];omega
    refine⟨a.2,h2.ns,Ic hnd,(gu (w:=default) (G:=im fun _=>False) (v:=Go.undef) (ids:=a.2) hlen h1 (fun us hu=>?_)).1,fun w G v hv=>(gu hlen h1 (fun us hu=>?_)).2 hv,h2.so⟩
    ·have:=h4 [] [] _ _ us hu;grind
    ·have:=h4 [] [] _ _ us hu;grind
   ·cases h5
  cases e<;>simp only [Acs]at q ⊢ <;>first
   | grind
   | grind
 ·cases hr
theorem mF {pre:List OE} {n:OE} {post:List OE}:(pre++([n]++post))[pre.length]? =some n:=by simp
theorem gw (m:Nat) (k:Kd) (x:PT T.den k) (pre post:List OE):(QA m pre.length k x).frz (pre++(Kg m k x++post))=Bz T.enc k x:=by
 cases k with
 | u_ E=>
   match m with
   | 0=>rfl
   | _+3=>rfl
   | 1=>
     show PC.frz _ (.o pre.length)=_;simp only [PC.frz,Kg,mF];rfl
   | 2=>
     show PC.frz _ (.o pre.length)=_;simp only [PC.frz,Kg,mF,OE.frz];exact congrArg (C.sl _) (Rq E _ 0 x)
 | _=>rfl
theorem Vn: ∀ (ms:List Nat) (ks:List Kd) (x:DK T.den ks) (pre post:List OE),(Fp ms pre.length ks x).map (PC.frz (pre++(Cq ms ks x++post)))=BD T.enc ks x
 | [],[],_,_,_=>by simp [Fp,BD]
 | _::_,[],_,_,_=>by simp [Fp,BD]
 | [],k::ks,x,pre,post=>by have:=Vn [] ks x.2 pre post;rw [Kk]at this ⊢;simp only [Fp,map_cons,BD,PC.frz,this]
 | m::ms,k::ks,x,pre,post=>by have h1:=gw m k x.1 pre (Cq ms ks x.2++post);have h2:=Vn ms ks x.2 (pre++Kg m k x.1) post;rw [length_append,(L8 m [] k x.1).1,(L8 m [] k x.1).2]at h2;grind [Fp,Cq,BD]
theorem P3 (m:List Nat) (t:VT) (x:Eo T t) (pre post:List OE):(IZ m pre.length t x).frz (pre++(Cq m (Fe T t) (OV t x)++post))=Ep t x:=by
 cases t with
 | k kd=>
   simp only [IZ,PP.frz,Ep,Fe,OV];have e1:Cq m [kd] ((x,()):DK T.den [kd])=Kg (m.headD 0) kd x:=by
    cases m with
    | nil=>simp only [Cq,headD_nil];unfold Kg;cases kd<;>rfl
    | cons y m=>grind [Cq]
   rw [e1];exact congrArg V.c (gw (m.headD 0) kd x pre post)
 | s E=>
   simp only [IZ,PP.frz,Ep,Fe,OV,Vn];exact congrArg V.agg (T.aa0 E x)
 | f g=>rfl
theorem Vo: ∀ (ow:List (List Nat)) (ts:List VT) (x:RT T ts) (pre post:List OE),(B2 ow pre.length ts x).map (PP.frz (pre++(Dr ow ts x++post)))=Cp ts x
 | [],[],_,_,_=>by simp [B2,Cp]
 | _::_,[],_,_,_=>by simp [B2,Cp]
 | [],[t],x,pre,post=>by have:=P3 [] t x pre post;grind [Kk,B2,Dr,Cp]
 | m::ms,[t],x,pre,post=>by grind [P3,B2,Dr,Cp]
 | [],t::u::ts,x,pre,post=>by
   have h1:=P3 [] t x.1 pre post;rw [Kk]at h1;have e:Dr [] (u::ts) x.2=[]:=by cases ts<;>rfl
   have h2:=Vo [] (u::ts) x.2 pre post;rw [e]at h2;simp only [B2,Dr,map_cons,Cp,h1,h2]
 | m::ms,t::u::ts,x,pre,post=>by have h1:=P3 m t x.1 pre (Dr ms (u::ts) x.2++post);have h2:=Vo ms (u::ts) x.2 (pre++Cq m (Fe T t) (OV t x.1)) post;grind [Ru,B2,Dr,Cp]
theorem mG (ow:List (List Nat)) (ts:List VT) (x:RT T ts):ud (Dr ow ts x) (B2 ow 0 ts x)=I9 ts x:=by
 have h:=Vo ow ts x [] [];simp only [List.length_nil,nil_append,List.append_nil]at h;unfold ud
 match ts,x,h with
 | [],x,h=>
   grind [I9,Cp]
 | [t],x,h=>
   split
   ·rename_i p hp;rw [hp]at h;simp only [map_cons,map_nil,Cp,List.cons.injEq,and_true]at h;exact h
   ·rename_i hne;have:=GE (T:=T) ow 0 [t] x
    match hp:B2 ow 0 [t] x,this,hne with
    | [p],_,hne=>grind
    | [],h,_=>cases h
    | _::_::_,h,_=>simp at h
 | t::u::ts,x,h=>
   grind [GE,I9]
def xN (Γ:List (CE T P I)) (agp:JS I) (abQ:P.follows .mixedOrders =true) (n:Nat) (f:FuncId) (fn:Func) (body:Code) (h:Hn) (ow:List (List Nat)) (ps rs:List VT) (run:XS T ps->Option (RT T rs)) (hf:P.funcs[f]? =some fn) (hb:fn.body=some body)
    (heq:run=qi Γ n fn body h ow ps rs) (abR:PL.ent P f=true:=by kernel_rfl):CE T P I where
 f:=f
 ps:=ps
 rs:=rs
 run:=run
 ok:=fun x r q=>by have hx:=xM (h:=h) agp abQ hf hb abR (heq▸q);have:=hx.flat (by rw [mG];exact gq _ _);rwa [mG]at this
 ow:=ow
 okx:=fun _ x r q=>xM (h:=h) agp abQ hf hb abR (by rw [<-heq];exact q)
end
end Go.PL
namespace Go.PL
open Go Go.RowKit
variable {T:Bj}
theorem BZ.x {P:Program} {I:World->Prop} {f:FuncId} {args:List V} {E n L:Nat} {CS:List C} (h:BZ P I f args E n (fun len cs=>len=L/\cs=CS)):MV P I f args [⟨false,E,n,L,CS⟩] [.c (.o 0)]:=by
 refine⟨h.ent,rfl,fun w vs av hI hav hr=>(h.run w vs av hI hav hr).mono ?_⟩;rintro e w' ⟨v,len,cs,us,he,⟨q1,q2⟩,hp,hl,hv,hb⟩;subst q1 q2;obtain⟨ob,hfr,acK,hv⟩: ∃ ob:Option Nat,(∀ b,ob=some b->w.heap.size<=b/\b<w'.heap.size)/\v.oneCell'=true/\((∃ p,v= .slice p 0 0/\len=0/\ob=none)\/(ob=v.ownBlock/\Al w' (im fun b=>av b\/v.ownBlock=some b) cs us/\w'.ownsRow w.heap.size E n v len us)):=by
  rcases hv with ⟨p,q1,q2⟩ | ⟨hrl,aaz⟩
  ·exact⟨none,(by grind),by rw [q1];rfl,(by grind)⟩
  ·refine⟨v.ownBlock,fun b hb'=>aaz.lt b hb',?_,(by grind)⟩;rcases aaz.2 with ⟨q,_⟩ | ⟨g,cap,cur,q,_⟩<;>rw [q]<;>rfl
 let G:AG:=⟨fun i=>if i=[0]then ob else none,fun i=>if i=[0]then some v else none,fun b=>av b\/ob=some b⟩;have abn: ∀ i b,G.p_ i=some b->i=[0]/\ob=some b:=(by grind);refine⟨v,[[0]],G,he,rfl,by simp,?_,?_,?_,?_,?_,hb⟩
 ·grind [Om,PP.toV,PC.toC,Ae,Ah]
 ·intro e0 he0;simp only [CU,OE.ent,mem_singleton]at he0;subst he0;refine⟨JL rfl ⟨hl,v,by simp [G],?_⟩,⟨rfl,fun q=>by cases q⟩,hp⟩;rcases hv with ⟨p,q1,h0,q2⟩ | ⟨q1,hrl,aaz⟩
  ·grind
  ·rcases aaz.2 with ⟨q,h0⟩ | ⟨g,cap,cur,q,_,k2,k3,k4,k5,k6⟩
   ·grind [Value.ownBlock]
   ·refine .inr ⟨g,cap,cur,q,by grind [Value.ownBlock],k2,k3,k4,k5,?_⟩;have hr2:Al w' G cs us:=Al.mono (G:=im fun b=>av b\/v.ownBlock=some b) ⟨le_refl _,fun _ _ _=>rfl,fun b _ hw=>by have hw:av b\/ob=some b:=hw;rw [q1]at hw;exact hw,fun _ _ _ _=>Cg.same rfl⟩ _ _ (fun i hi=>absurd (show BS i cs=true from hi) (by rw [AQ i cs hp];simp)) hrl
    grind [An.aaA,BO,List.take_append_drop]
 ·grind
 ·grind
 ·intro b;constructor
  ·rintro(q | q)
   ·exact .inl q
   ·exact .inr ⟨[0],by grind⟩
  grind
def a6 {P:Program} {I:World->Prop} (f:FuncId) (ps:List VT) (E:Nat) (run:XS T ps->Option (RT T [.k (.u_ E)])) (h: ∀ x r,run x=some r->BZ P I f (F5 ps x) E (T.sz E) (fun len cs=>len=List.length (α:=T.den E) r/\cs=List.flatMap (T.enc E) r)):CE T P I where
 f:=f
 ps:=ps
 rs:=[.k (.u_ E)]
 run:=run
 ok:=fun x r hr=>BZ.flat (h x r hr)
 ow:=[[1]]
 okx:=fun _ x r hr=>(h x r hr).x
end Go.PL
namespace Go.PL
open Go Go.RowKit Go.Proofs
theorem Ds (b:Nat): ∀ (vs:List Value) (o:Nat) (w:World),(w.setCells b o vs).heap.size =w.heap.size/\(w.setCells b o vs).os =w.os/\(w.setCells b o vs).tape =w.tape/\(w.setCells b o vs).output =w.output/\
 ∀ k,k ≠ b->(w.setCells b o vs).heap[k]? =w.heap[k]?
 | [],_,_=>⟨rfl,rfl,rfl,rfl,fun _ _=>rfl⟩
 | v::r,o,w=>by obtain⟨a1,a2,a3,a4,a5⟩:=Ds b r (o+1) (w.setCell ⟨b,o,none⟩ v);rw [World.setCells];refine⟨a1.trans (by simp),a2,a3,a4,fun k hk=>(a5 k hk).trans ?_⟩;simp [World.setCell,Array.getElem?_modify,Ne.symm hk]
theorem DY (b:Nat): ∀ (vs:List Value) (o:Nat) (w:World) (cur:Array Value) (T:TypeId) (fz:Nat×Nat),w.heap[b]? =some (.cells cur T fz)->o+vs.length<=cur.size->
 ∃ adr,(w.setCells b o vs).heap[b]? =some (.cells adr T fz)/\adr.toList=cur.toList.take o++vs++cur.toList.drop (o+vs.length)
 | [],o,w,cur,T,fz,h,_=>⟨cur,h,by simp⟩
 | v::r,o,w,cur,T,fz,h,hl=>by
   simp only [length_cons]at hl;have h1:(w.setCell ⟨b,o,none⟩ v).heap[b]? =some (.cells (cur.setIfInBounds o v) T fz):=by have hlt:b<w.heap.size:=(Array.getElem?_eq_some_iff.1 h).1;have hv:w.heap[b]= .cells cur T fz:=(Array.getElem?_eq_some_iff.1 h).2;unfold World.setCell;rw [Array.getElem?_eq_getElem (by simpa using hlt),Array.getElem_modify];simp [hv]
   obtain⟨adr,g1,g2⟩:=DY b r (o+1) _ _ T fz h1 (by simp;omega);refine⟨adr,g1,g2.trans ?_⟩;have ho:o<cur.toList.length:=by simp;omega
   rw [Array.toList_setIfInBounds,List.take_set,List.drop_set_of_lt (by omega),length_cons];rw [List.take_succ_eq_append_getElem ho];rw [List.set_append_right _ _ (by simp;omega)];simp only [length_take,Nat.min_eq_left (Nat.le_of_lt ho),Nat.sub_self,List.set_cons_zero,append_assoc,List.cons_append,nil_append];rw [show o+1+r.length=o+(r.length+1) by omega]
theorem uO {α:Type} {A cs vs R:List α} {i m n:Nat} (hA:A.take i=cs.take i) (hi:i<=n) (hc:cs.length=n) (hv:vs.length=m) (hl:n+m<=A.length):
 (((A.take (i+m)++cs.drop i++R).take i++vs++(A.take (i+m)++cs.drop i++R).drop (i+m)).take (n+m))=cs.take i++vs++cs.drop i:=by
 have l1:(A.take (i+m)).length =i+m:=by rw [length_take];omega
 have e1:(A.take (i+m)++cs.drop i++R).take i=cs.take i:=by rw [append_assoc,List.take_append_of_le_length (by omega),List.take_take,Nat.min_eq_left (by omega),hA]
 have e2:(A.take (i+m)++cs.drop i++R).drop (i+m)=cs.drop i++R:=by rw [append_assoc,List.drop_append_of_le_length (by omega),List.drop_of_length_le (by omega),nil_append]
 rw [e1,e2, <-append_assoc];have l2:(cs.take i++vs++cs.drop i).length =n+m:=by simp only [length_append,length_take,length_drop];omega
 rw [<-l2];exact take_left
theorem uP {α:Type} {A cs vs R:List α} {i m n:Nat} (hA:A.take i=cs.take i) (hi:i<=n) (hc:cs.length=n) (hv:vs.length=m) (hl:n+m<=A.length):
 (((A.take i++vs++A.drop (i+m)).take (i+m)++cs.drop i++R).take (n+m))=cs.take i++vs++cs.drop i:=by
 have l1:(cs.take i++vs).length =i+m:=by simp only [length_append,length_take];omega
 rw [hA];have e1:(cs.take i++vs++A.drop (i+m)).take (i+m)=cs.take i++vs:=by rw [<-l1];exact take_left
 rw [e1];have l2:(cs.take i++vs++cs.drop i).length =n+m:=by simp only [length_append,length_take,length_drop];omega
 rw [<-l2];exact take_left
theorem WN.of {P:Program} {ρ:Go.Shelf.Ren} (L:Lays2.n21 P ρ):WN P (ρ.f 21) (ρ.t 3):=by
 intro w v n i vb m vc xs us cur T row hv hin hm ox ou hul alO hmv hvc hne hvb hvs;have hus: ∀ j u,us[j]? =some u->w.cell? ⟨vb,0+j,none⟩=some u:=by
  intro j u hj;rw [<-hvs]at hj;have hj':cur[j]? =some u:=by
   rw [List.getElem?_take]at hj;split at hj
   ·rwa [Array.getElem?_toList]at hj
   ·cases hj
  simp [World.cell?,hvb,hj']
 have hvl:=hul;have grow: ∀ (base:Option Addr) (c:Nat),i=n->v= .slice base n c->n<=c->c<n+m->(base=none->n=0)->xs.length=n->(∀ a,base=some a-> ∀ j u,xs[j]? =some u->w.cell? (a.add j)=some u)->
  Calls P (ρ.f 21) #[v, .int .i64 i, .slice (some ⟨vb,0,none⟩) m vc] w fun e w'=> ∃ v',e= .returned v'/\w'.ownsRow 0 (ρ.t 3) 1 v' (n+m) (xs.take i++us++xs.drop i)/\
   w.grownBy w' row/\(v'.ownBlock=row\/ ∀ b,v'.ownBlock=some b->w.heap.size<=b):=by
  intro base c hi hv hnc hc hb hx hcs;subst hi hv;refine(Any2.slices_Insert_int_end_grow L base i c vb 0 m vc xs us w hm hnc hc alO (by simpa using hx) hvl hb hcs hus ou).mono fun e w' ⟨he,hw⟩=>?_;refine⟨_,he,?_,?_, .inr fun b hb=>by simp [Value.ownBlock]at hb;omega⟩
  ·rw [hw];have hge:=grownCap_ge w (i+m) c (ρ.t 3);refine⟨by simp;omega, .inr ⟨w.heap.size,_,_,rfl,zero_le _,heap_alloc_new w.drew _,hge,grownCap_le_maxLen w (i+m) c (ρ.t 3) (by unfold maxLen;omega),?_,?_⟩⟩
   ·simp [Builtin.zeroCells,Value.cells];omega
   ·simp only [Array.toList_append,mul_one];rw [List.take_append_of_le_length (by simp;omega),take_of_length_le (by simp;omega),take_of_length_le (by omega),List.drop_of_length_le (by omega)];simp
  ·rw [hw];exact⟨rfl,rfl,rfl,by simp,fun k hk _=>heap_alloc_old w.drew _ hk⟩
 rcases hv with ⟨aaz,IN⟩ | ⟨p,hv,hn,hx,IN⟩
 ·rcases aaz.2 with ⟨hv,hn⟩ | ⟨g,cap,cu,hv,hbg,hg,hnc,hcm,hcs,ak0⟩
  ·exact grow none 0 (by omega) (by rw [hv,hn]) (by omega) (by omega) (fun _=>hn) (by have:=aaz.1;simpa using this) (fun a ha=>by cases ha)
  ·have hx:xs.length=n:=by have:=aaz.1;simpa using this
   have ac_:row=some g:=by rw [IN,hv];rfl
   have adq:vb ≠ g:=fun q=>hne (by rw [ac_,q]);simp only [mul_one]at hcs ak0;have ab9: ∀ j u,xs[j]? =some u->w.cell? ((⟨g,0,none⟩:Addr).add j)=some u:=aaz.cells (g:=g) (by rw [hv];rfl);have am8: ∀ j u,xs[j]? =some u->w.cell? ⟨g,0+j,none⟩=some u:=fun j u hj=>by have:=ab9 j u hj;rwa [Addr.add_lit]at this
   have apv: ∀ j,j<cap->(w.cell? ⟨g,j,none⟩).isSome =true:=fun j hj=>by simp [World.cell?,hg,show j<cu.size by omega]
   have hfz: ∀ j,w.frozen? ⟨g,j,none⟩=false:=fun j=>by simp [World.frozen?,hg]
   have hfv: ∀ j,w.frozen? ⟨vb,j,none⟩=false:=fun j=>by simp [World.frozen?,hvb]
   have finish: ∀ (w':World) (c':Array Value),w'.heap[g]? =some (.cells c' (ρ.t 3) (0,0))->c'.toList.length=cap->n+m<=cap->c'.toList.take (n+m)=(xs.take i++us++xs.drop i)->
    w'.ownsRow 0 (ρ.t 3) 1 (.slice (some ⟨g,0,none⟩) (n+m) cap) (n+m) (xs.take i++us++xs.drop i):=fun w' c' h1 h2 h3 h4=>
    ⟨by simp;omega, .inr ⟨g,cap,c',rfl,zero_le _,h1,h3,hcm,by simpa using h2,by simpa using h4⟩⟩
   by_cases ag5:n+m<=cap
   ·by_cases hi:i=n
    ·subst hi hv;refine(Any2.slices_Insert_int_end_room L g 0 i cap vb 0 m vc us w hm ag5 (by unfold maxLen at hcm;omega) hvl (fun j hj=>apv _ (by omega)) (fun j _=>hfz _) hus ou).mono fun e w' ⟨he,hw⟩=>?_;obtain⟨f1,f2,f3,f4,f5⟩:=Ds g us (0+i) w;obtain⟨c',g1,g2⟩:=DY g us (0+i) w cu _ _ hg (by rw [hvl];omega);rw [<-hw]at f1 f2 f3 f4 f5 g1;refine⟨_,he,finish w' c' g1 ?_ ag5 ?_,⟨f2,f3,f4,by omega,fun k _ hk=>f5 k fun q=>hk (by rw [ac_,q])⟩, .inl (by rw [ac_];rfl)⟩
     ·rw [g2];simp;omega
     ·rw [g2,zero_add,ak0,List.take_append_of_le_length (by simp;omega),take_of_length_le (by simp;omega),take_of_length_le (by omega),List.drop_of_length_le (by omega)];simp
    ·subst hv;refine(Any2.slices_Insert_int_shift L g 0 n cap i vb 0 m vc xs us w (by omega) hm ag5 (by unfold maxLen at hcm;omega) adq (by simpa using hx) hvl am8 (fun j hj=>apv _ (by omega)) (fun j _=>hfz _) hus ox ou
      T (ρ.t 3) vc cap (by simp [World.shape?,hvb,hvc]) (by simp [World.shape?,hg,hcs]) (by omega) (hfv _) (hfv _)).mono fun e w' ⟨he,hw⟩=>?_
     have hdl:(xs.drop i).length =n - i:=by rw [length_drop,hx]
     obtain⟨f1,f2,f3,f4,f5⟩:=Ds g (xs.drop i) (0+(i+m)) w.drew;obtain⟨c1,g1,g2⟩:=DY g (xs.drop i) (0+(i+m)) w.drew cu _ _ hg (by rw [hdl];omega);obtain⟨k1,k2,k3,k4,k5⟩:=Ds g us (0+i) (w.drew.setCells g (0+(i+m)) (xs.drop i));have hc1:c1.toList.length=cap:=by rw [g2];simp only [length_append,length_take,length_drop,length_toList];omega
     obtain⟨c2,e1,e2⟩:=DY g us (0+i) _ c1 _ _ g1 (by rw [hvl];simp only [length_toList]at hc1;omega);rw [<-hw]at k1 k2 k3 k4 k5 e1;refine⟨_,he,finish w' c2 e1 ?_ ag5 ?_,⟨k2.trans f2,k3.trans f3,k4.trans f4,by rw [k1,f1];exact le_refl _,fun k _ hk=>(k5 k fun q=>hk (by rw [ac_,q])).trans (f5 k fun q=>hk (by rw [ac_,q]))⟩, .inl (by rw [ac_];rfl)⟩
     ·rw [e2];simp only [length_append,length_take,length_drop];omega
     ·rw [e2,g2,zero_add,zero_add,hvl];rw [uO (A:=cu.toList) (cs:=xs) (by rw [<-ak0,List.take_take,Nat.min_eq_left (by omega)]) (by omega) (by simpa using hx) hvl (by simp;omega)]
   ·by_cases hi:i=n
    ·exact grow (some ⟨g,0,none⟩) cap hi hv hnc (by omega) (fun q=>by cases q) hx (fun a ha=>by cases ha;exact ab9)
    ·subst hv;refine(Any2.slices_Insert_int_grow L g 0 n cap i vb 0 m vc xs us w (by omega) hm hnc (by omega) alO (by simpa using hx) hvl am8 hus ox ou).mono fun e w' ⟨he,hw⟩=>?_;have hge:=grownCap_ge w (n+m) cap (ρ.t 3);have atP:=grownCap_le_maxLen w (n+m) cap (ρ.t 3) (by unfold maxLen;omega);obtain⟨C,hC⟩: ∃ C,C=grownCap w (n+m) cap (ρ.t 3):=⟨_,rfl⟩;rw [<-hC]at he hw hge atP;obtain⟨ROW,aq1⟩: ∃ ROW:Array Value,ROW=(xs.take i).toArray ++Builtin.zeroCells (Value.int .i64 0).cells (n+m - i)++Builtin.zeroCells (Value.int .i64 0).cells (C - (n+m)):=⟨_,rfl⟩;rw [<-aq1]at hw;have hRs:ROW.size=C:=by rw [aq1];simp [Builtin.zeroCells,Value.cells];omega
     have hRt:ROW.toList.take i=xs.take i:=by rw [aq1];simp only [Array.toList_append,append_assoc];rw [List.take_append_of_le_length (by simp;omega),take_of_length_le (by simp;omega)]
     have h0:(w.alloc (.cells ROW (ρ.t 3))).drew.heap[w.heap.size]? =some (.cells ROW (ρ.t 3) (0,0)):=heap_alloc_new w _;obtain⟨W1,hW1⟩: ∃ W1,W1=(w.alloc (.cells ROW (ρ.t 3))).drew :=⟨_,rfl⟩;have aoE:W1.heap.size=w.heap.size+1/\W1.os=w.os/\W1.tape=w.tape/\W1.output=w.output/\ ∀ k,k<w.heap.size->W1.heap[k]? =w.heap[k]? :=by rw [hW1];exact⟨by simp,rfl,rfl,rfl,fun k hk=>heap_alloc_old w _ hk⟩
     rw [<-hW1]at hw h0;have hdl:(xs.drop i).length =n - i:=by rw [length_drop,hx]
     obtain⟨f1,f2,f3,f4,f5⟩:=Ds w.heap.size us i W1;obtain⟨c1,g1,g2⟩:=DY w.heap.size us i W1 ROW _ _ h0 (by rw [hvl];omega);obtain⟨k1,k2,k3,k4,k5⟩:=Ds w.heap.size (xs.drop i) (i+m) (W1.setCells w.heap.size i us).drew;have hc1:c1.toList.length=C:=by rw [g2];simp only [length_append,length_take,length_drop,length_toList];omega
     obtain⟨c2,e1,e2⟩:=DY w.heap.size (xs.drop i) (i+m) (W1.setCells w.heap.size i us).drew c1 _ _ g1 (by rw [hdl];simp only [length_toList]at hc1;omega);rw [<-hw]at k1 k2 k3 k4 k5 e1;refine⟨_,he,⟨by simp;omega, .inr ⟨w.heap.size,C,c2,rfl,zero_le _,e1,hge,atP,?_,?_⟩⟩,⟨k2.trans (f2.trans aoE.2.1),k3.trans (f3.trans aoE.2.2.1),k4.trans (f4.trans aoE.2.2.2.1),?_,fun k hk _=>?_⟩, .inr fun b hb=>by simp [Value.ownBlock]at hb;omega⟩
     ·rw [mul_one, <-length_toList,e2];simp only [length_append,length_take,length_drop];omega
     ·rw [mul_one,e2,g2,hvl];rw [uP (A:=ROW.toList) (cs:=xs) hRt (by omega) (by simpa using hx) hvl (by simp;omega)]
     ·rw [k1];show w.heap.size<=(W1.setCells w.heap.size i us).heap.size;rw [f1];omega
     ·rw [k5 k (by omega)];exact(f5 k (by omega)).trans (aoE.2.2.2.2 k hk)
 ·subst hx;exact grow (some p) 0 (by omega) (by rw [hv,hn]) (by omega) (by omega) (fun q=>by cases q) (by rw [hn];rfl) (fun a _ j u hj=>by simp at hj)
end Go.PL
namespace Go.PL
open Go
theorem AU {x:Int} (h0: -9223372036854775808<=x) (h1:x<=9223372036854775807):Ad x=x:=by grind [Ad,IntKind.wrap_i64]
theorem Nb {x:Int} (h0:0<=x) (h1:x<=18446744073709551615):IntKind.u64.wrap x=x:=by unfold IntKind.wrap;simp only [IntKind.bits,IntKind.signed,Bool.false_and];simp;omega
theorem uQ {x:Int} (h0:0<=x) (h1:x<=255):IntKind.u8.wrap x=x:=by unfold IntKind.wrap;simp only [IntKind.bits,IntKind.signed,Bool.false_and];simp;omega
theorem qj (x:Int):0<=IntKind.u64.wrap x/\IntKind.u64.wrap x<=18446744073709551615:=by unfold IntKind.wrap;simp only [IntKind.bits,IntKind.signed,Bool.false_and];simp;omega
section
variable {σ ρ:Type} {B:σ->Option (σ⊕ρ)}
theorem CH {n:Nat} {s s':σ} (h:B s=some (.inl s')):iter B (n+1) s=iter B n s':=by simp [iter,h]
theorem Cr {n:Nat} {s:σ} {r:ρ} (h:B s=some (.inr r)):iter B (n+1) s=some r:=by simp [iter,h]
theorem mH {S:Nat->σ} {r:ρ} {j:Nat} (hs: ∀ i,i<j->B (S i)=some (.inl (S (i+1)))) (he:B (S j)=some (.inr r)): ∀ (k N i:Nat),i+k=j->k<N->iter B N (S i)=some r
 | 0,N+1,i,hi,_=>by obtain rfl:i=j:=by omega
                    exact Cr he
 | k+1,N+1,i,hi,hN=>by rw [CH (hs i (by omega))];exact mH hs he k N (i+1) (by omega) (by omega)
theorem SO (S:Nat->σ) {r:ρ} (j:Nat) (hj:j<9223372036854775807) (hs: ∀ i,i<j->B (S i)=some (.inl (S (i+1)))) (he:B (S j)=some (.inr r)) {s0:σ} (h0:s0=S 0):iter B FU s0=some r:=by subst h0;exact mH hs he j FU 0 (by omega) hj
end
section
variable {α:Type} [Inhabited α] {l:List α} {i:Int}
theorem SP (h:0<=i/\i<l.length):idx l i=some (l.getD i.toNat default):=if_pos h
theorem BY {k:Nat} (h:k<l.length):idx l (k:Int)=some l[k]:=by grind [SP]
end
theorem mI {α:Type} {b:Nat} {l m:List α} (h:(l.length+m.length)*b<=140737488355328/\l.length+m.length<=maxLen):app b l m=some (l++m):=if_pos h
theorem In {a b:List UInt8} (h:a.length+b.length<=maxLen):cat a b=some (a++b):=if_pos h
theorem Hq {p:Prop} [Decidable p] (h:p):n_ p=some ():=if_pos h
def dgc (n:Int):UInt8:=UInt8.ofNat (48+(n.toNat % 10))
theorem Nc (k u:Nat) (h:u<10 ^ (k+1)):(Lib.decDigits u).length <=k+1:=by
 induction k generalizing u with
 | zero=>simp_all [Lib.decDigits]
 | succ k ih=>
   grind [Lib.decDigits]
theorem SQ {n:Int} (h0: -9223372036854775808<=n) (h1:n<=9223372036854775807):(Lib.itoa n).length <=21:=by
 unfold Lib.itoa;split
 ·have:=Nc 19 n.natAbs (by omega);simp;omega
 ·have:=Nc 19 n.toNat (by omega);omega
theorem mJ {u:Int} (h0:0<=u):Lib.decDigits u.toNat=(if u / 10=0 then [] else Lib.decDigits (u / 10).toNat)++[dgc u]:=by
 conv=>lhs;rw [Lib.decDigits]
 by_cases h:u.toNat<10
 ·rw [dif_pos h,if_pos (by omega),dgc,Nat.mod_eq_of_lt h];rfl
 ·have e:u.toNat / 10=(u / 10).toNat :=by omega
  rw [dif_neg h,if_neg (by omega),dgc,e]
def uR (u:Int) (s:List UInt8):Option ((Int×(List UInt8))⊕((List UInt8))):=
 (if(decide ((0:Int)<u)) then
  (n_ (∀ n∈([IntKind.u8.wrap (IntKind.u64.wrap ((48:Int)+(Int.tmod u (10:Int))))]:List (Int)),0<=n/\n<256)).bind fun _=>
  (cat (JZ ([IntKind.u8.wrap (IntKind.u64.wrap ((48:Int)+(Int.tmod u (10:Int))))]:List (Int))) s).bind fun s12=>
  some (.inl ((IntKind.u64.wrap (Int.tdiv u (10:Int))),s12))
 else
  some (.inr s))
def jw (a0:Int):Option ((List UInt8)):=
 (n_ (∀ n∈([IntKind.u8.wrap (IntKind.u64.wrap ((48:Int)+(Int.tmod a0 (10:Int))))]:List (Int)),0<=n/\n<256)).bind fun _=>
 (iter (fun(v:Int×(List UInt8))=>uR v.1 v.2) FU ((IntKind.u64.wrap (Int.tdiv a0 (10:Int))),(JZ ([IntKind.u8.wrap (IntKind.u64.wrap ((48:Int)+(Int.tmod a0 (10:Int))))]:List (Int))))).bind (fun o0=>some o0)
def sG (a0:Int):Option ((List UInt8)):=
 (if(decide (a0<(0:Int))) then
  (jw (IntKind.u64.wrap (0 - (IntKind.u64.wrap (a0))))).bind fun r2=>
  (cat [45] r2).bind fun s3=>
  some s3
 else
  (jw (IntKind.u64.wrap (a0))).bind fun r4=>
  some r4)
theorem sH {u:Int} (h0:0<=u) (h1:u<=18446744073709551615):IntKind.u8.wrap (IntKind.u64.wrap ((48:Int)+(Int.tmod u (10:Int))))=48+((u.toNat % 10:Nat):Int):=by grind [Nb,uQ]
theorem sJ {u:Int} (h0:0<=u) (h1:u<=18446744073709551615):IntKind.u64.wrap (Int.tdiv u (10:Int))=u / 10:=by grind [Nb]
theorem mK {u:Int} (h0:0<=u) (h1:u<=18446744073709551615): ∀ n∈([IntKind.u8.wrap (IntKind.u64.wrap ((48:Int)+(Int.tmod u (10:Int))))]:List (Int)),0<=n/\n<256:=by grind [sH]
theorem gx {u:Int} (h0:0<=u) (h1:u<=18446744073709551615):JZ ([IntKind.u8.wrap (IntKind.u64.wrap ((48:Int)+(Int.tmod u (10:Int))))]:List (Int))=[dgc u]:=by grind [sH,JZ,dgc]
theorem AaO {u:Int} {s:List UInt8} (h0:0<u) (h1:u<=18446744073709551615) (hs:s.length<=1000):uR u s=some (.inl (u / 10,dgc u::s)):=by unfold uR;rw [if_pos (by simpa using h0),Hq (mK (by omega) h1),gx (by omega) h1,In (by simp [maxLen];omega),sJ (by omega) h1];rfl
theorem mL (s:List UInt8):uR 0 s=some (.inr s):=by simp [uR]
theorem mM: ∀ (k:Nat) (u:Int) (s:List UInt8) (N:Nat),0<=u->u<10 ^ k->u<=18446744073709551615->s.length+k<=1000->k<N->
 iter (fun(v:Int×(List UInt8))=>uR v.1 v.2) N (u,s)=some ((if u=0 then [] else Lib.decDigits u.toNat)++s)
 | 0,u,s,N+1,h0,h1,h2,hs,hN=>by
   obtain rfl:u=0:=by grind
   grind [Cr,mL]
 | k+1,u,s,N+1,h0,h1,h2,hs,hN=>by
   by_cases hu:u=0
   ·grind [Cr,mL]
   ·rw [CH (s':=(u / 10,dgc u::s)) (AaO (by omega) h2 (by show s.length<=1000;omega)),mM k (u / 10) (dgc u::s) N (by omega) (by grind) (by omega) (by simp;omega) (by omega)];simp_all [mJ]
theorem gy {u:Int} (h0:0<=u) (h1:u<=18446744073709551615):jw u=some (Lib.decDigits u.toNat):=by unfold jw;rw [Hq (mK h0 h1),gx h0 h1,sJ h0 h1];simp only [Option.bind_some];rw [mM 20 (u / 10) [dgc u] FU (by omega) (by omega) (by omega) (by simp) (by simp [FU])];grind [mJ]
theorem mN {n:Int} (h0: -9223372036854775808<=n) (h1:n<=9223372036854775807):sG n=some (Lib.itoa n):=by
 have wu: ∀ x:Int,IntKind.u64.wrap x=x % 18446744073709551616:=by grind [IntKind.wrap,IntKind.bits,IntKind.signed]
 unfold sG Lib.itoa;by_cases hn:n<0
 ·rw [if_pos (by simpa using hn),if_pos hn];have e:IntKind.u64.wrap (0 - IntKind.u64.wrap n)= -n:=by grind
  rw [e,gy (by omega) (by omega)];have hl:=Nc 19 (-n).toNat (by omega);grind [In,maxLen]
 ·rw [if_neg (by simpa using hn),if_neg hn,Nb (by omega) (by omega),gy (by omega) (by omega)];rfl
end Go.PL
namespace Go.PL
open Go Go.RowKit Go.WideShapes Go.ChangeShapes
def KJ (k:IntKind) (v:Int):Prop:=(Lit.int k v).wf =true
def okB (_:Bool):Prop:=True
def okS (v:List UInt8):Prop:=v.length<=reachBytes
def xO {α:Type} (b:Nat) (ok:α->Prop) (l:List α):Prop:=l.length*b<=reachBytes/\ ∀ y∈l,ok y
section
variable {P:Program} {t e:TypeId} {n:Nat} {cs:List C}
theorem dI {k:IntKind} (hu:P.underlying t=some (.int k)) (h:Bu P n t cs): ∃ z,cs=eI k z/\KJ k z:=tM hu h
theorem dB (hu:P.underlying t=some .bool) (h:Bu P n t cs): ∃ b,cs=eB b/\okB b:=o4 hu h
theorem dS (hu:P.underlying t=some .string) (h:Bu P n t cs): ∃ s,cs=eS s/\okS s:=tN hu h
theorem dL {α:Type} {enc:α->List C} {ok:α->Prop} {b:Nat} (hu:P.underlying t=some (.slice e)) (hb:P.bytesOf e=b) (hd: ∀ {n ds},Bu P n e ds-> ∃ x,ds=enc x/\ok x) (h:Bu P n t cs):
 ∃ l:List α,cs=eL enc l/\xO b ok l:=vH hu hb (fun _ _=>hd) h
theorem dA {α:Type} {m:Nat} {enc:α->List C} {ok:α->Prop} (hu:P.underlying t=some (.array m e)) (hd: ∀ {n ds},Bu P n e ds-> ∃ x,ds=enc x/\ok x) (h:Bu P n t cs):
 ∃ l:List α,l.length=m/\cs=l.flatMap enc/\ ∀ y∈l,ok y:=by
 cases n with
 | zero=>exact h.elim
 | succ n=>
   simp only [Bu,hu]at h;obtain⟨Dg,rfl,h2,h3⟩:=h;obtain⟨l,rfl,h5⟩:=Zi (fun _=>hd) h3;grind
end
section
variable {R:TypeId->List C->Prop}
theorem AI {t:TypeId} {ts:List TypeId} {α β:Type} {e:α->List C} {E:β->List C} {ok:α->Prop} {OK:β->Prop} (hd: ∀ {ds},R t ds-> ∃ x,ds=e x/\ok x) (hr: ∀ {Dg},UL R ts Dg-> ∃ y,Dg.flatten=E y/\OK y) {Dg:List (List C)} (h:UL R (t::ts) Dg):
 ∃ p:α×β,Dg.flatten=e p.1++E p.2/\ok p.1/\OK p.2:=by
 simp only [UL]at h;obtain⟨ds,r,rfl,h1,h2⟩:=h;obtain⟨x,rfl,h3⟩:=hd h1;obtain⟨y,h4,h5⟩:=hr h2;exact⟨(x,y),by grind,h3,h5⟩
theorem Kl {Dg:List (List C)} (h:UL R [] Dg): ∃ _:Unit,Dg.flatten=[]/\True:=by simp only [UL]at h;simp_all
end
section
variable {H:Type} {enc:TypeId×Value->H} {P:Program} {W:World} {spare:Nat->Bool} {r:Reach} {base:Nat} {t:TypeId} {v:Value} {d:DataW H} {ps:List MemPlace}
theorem qk {ts:List TypeId} {ds:List (DataW H)} (h:(DataW.weightsEach P (t::ts) (d::ds)).all (· <=reachBytes)=true):(d.weights P t).all (· <=reachBytes)=true/\(DataW.weightsEach P ts ds).all (· <=reachBytes)=true:=by simp_all [DataW.weightsEach]
theorem AaP {α:Type} {e:α->List C} {ok:α->Prop} {fs:Array Field} (k:Nat) (hk:okT P k t=true) (hu:P.underlying t=some (.struct fs)) (hd: ∀ {n cs},Bu P n t cs-> ∃ x,cs=e x/\ok x)
 (hv:Value.okWide P W r base t v) (h:DataW.Trod enc P W 0 spare true t v d ps) (hw:(d.weights P t).all (· <=reachBytes)=true): ∃ x,ok x/\Ae W (im fun _=>False) (vA e x) v:=by
 obtain⟨arr,rfl,_⟩:=okWide_struct hu hv;obtain⟨fuel,h⟩:=h;obtain⟨cs,h1,h2,_⟩:=OB (G:=im fun _=>False) (fun _ _ h=>h) k t hk fuel _ _ h hw;obtain⟨x,rfl,h4⟩:=hd h2;exact⟨x,h4,by simp only [Ae];exact⟨arr,rfl,h1⟩⟩
end
end Go.PL
namespace Go.PL
open Go
def W {α:Type} (o:Option α) (Q:α->Prop):Prop:= ∃ r,o=some r/\Q r
def LQ {σ ρ:Type} (I:σ->Prop) (m:σ->Nat) (s:σ) (K:ρ->Prop):σ⊕ρ->Prop:=Sum.elim (fun s'=>I s'/\m s'<m s) K
section
variable {α β σ ρ:Type} {o:Option α} {P Q':α->Prop} {f:α->Option β} {Q:β->Prop} {v:α} {g c:Bool}
theorem W.bd (h:W o P) (k: ∀ x,P x->W (f x) Q):W (o.bind f) Q:=by obtain⟨r,rfl,h2⟩:=h;exact k r h2
theorem W.lt (k: ∀ x,x=v->W (f x) Q):W ((some v).bind f) Q:=k v rfl
theorem W.if {a b:Option β} (k1:c=true->W a Q) (k2:c=false->W b Q):W (if c then a else b) Q:=by grind
theorem W.imp {Q2:α->Prop} (h:W o P) (k: ∀ x,P x->Q2 x):W o Q2:=by obtain⟨r,h1,h2⟩:=h;exact⟨r,h1,k r h2⟩
theorem O3 [Inhabited α] {l:List α} {i:Nat} (h:i<l.length):l.getD i default∈l:=by grind
theorem W.idx [Inhabited α] {l:List α} {i:Int} (h:0<=i/\i<l.length):W (idx l i) (fun e=>e∈l/\e=l.getD i.toNat default/\idx l i=some e):=
 ⟨_,SP h,O3 (by omega),rfl,SP h⟩
theorem W.re (h:o=some v) (k:W (f v) Q):W (o.bind f) Q:=by grind
theorem W.app {b:Nat} {l m:List α} (h:(l.length+m.length)*b<=140737488355328) (h2:l.length+m.length<=maxLen):W (app b l m) (fun e=>e=l++m):=⟨_,mI ⟨h,h2⟩,rfl⟩
theorem W.cat {a b:List UInt8} (h:a.length+b.length<=9223372036854775807):W (cat a b) (fun e=>e=a++b/\e.length=a.length+b.length):=⟨_,In (by unfold maxLen;omega),rfl,length_append⟩
theorem W.n_ {p:Prop} [Decidable p] (h:p):W (n_ p) (fun _=>True):=⟨_,Hq h,trivial⟩
theorem W.nx {I:σ->Prop} {m:σ->Nat} {s s':σ} {K:ρ->Prop} (h:I s') (h2:m s'<m s):W (some (.inl s':σ⊕ρ)) (LQ I m s K):=⟨_,rfl,h,h2⟩
theorem W.ex {I:σ->Prop} {m:σ->Nat} {s:σ} {K:ρ->Prop} {r:ρ} (h:K r):W (some (.inr r:σ⊕ρ)) (LQ I m s K):=⟨_,rfl,h⟩
theorem xP {B:σ->Option (σ⊕ρ)} {I:σ->Prop} {m:σ->Nat} {K:ρ->Prop} (hs: ∀ s,I s->W (B s) (LQ I m s K)): ∀ (n:Nat) (s:σ),I s->m s<n->W (iter B n s) K
 | 0,_,_,h=>by omega
 | n+1,s,hI,hm=>by
   obtain⟨x,h1,h2⟩:=hs s hI;cases x with
   | inl s'=>rw [CH h1];exact xP hs n s' h2.1 (by have:=h2.2;omega)
   | inr r=>rw [Cr h1];exact⟨r,rfl,h2⟩
theorem W.it {B:σ->Option (σ⊕ρ)} {f:ρ->Option β} {s0:σ} (I:σ->Prop) (m:σ->Nat) (h0:I s0) (hm:m s0<9223372036854775807) (hs: ∀ s,I s->W (B s) (LQ I m s (fun r=>W (f r) Q))):W ((iter B FU s0).bind f) Q:=by obtain⟨r,h1,h2⟩:=xP hs FU s0 h0 hm;grind
end
theorem bz:(∀ {p:Prop} [Decidable p] {b:Bool},((if p then true else b)=true)=(p\/b=true))/\(∀ {p:Prop} [Decidable p] {b:Bool},((if p then true else b)=false)=(¬p/\b=false))/\(∀ {p:Prop} [Decidable p] {b:Bool},((if p then b else false)=true)=(p/\b=true))/\(∀ {p:Prop} [Decidable p] {b:Bool},((if p then b else false)=false)=(¬p\/b=false))/\(∀ {a:Bool},((!a)=true)=(a=false))/\(∀ {a:Bool},((!a)=false)=(a=true))/\(∀ {p:Prop} [Decidable p],(decide p=true)=p)/\(∀ {p:Prop} [Decidable p],(decide p=false)= ¬p)/\(∀ {a b:Int},((a==b)=true)=(a=b))/\(∀ {a b:Int},((a==b)=false)= ¬(a=b))/\(∀ {a b:Int},((a != b)=true)= ¬(a=b))/\(∀ {a b:Int},((a != b)=false)=(a=b))/\(∀ {a:Bool},((a==true)=true)=(a=true))/\(∀ {a:Bool},((a==true)=false)=(a=false))/\(∀ {a:Bool},((a==false)=true)=(a=false))/\(∀ {a:Bool},((a==false)=false)=(a=true))/\(∀ {a b:Bool},((a&&b)=true)=(a=true/\b=true))/\(∀ {a b:Bool},((a&&b)=false)=(a=false\/b=false))/\(∀ {a b:List UInt8},((a==b)=true)=(a=b))/\(∀ {a b:List UInt8},((a==b)=false)= ¬(a=b))/\(∀ {a b:List UInt8},((a != b)=true)= ¬(a=b))/\(∀ {a b:List UInt8},((a != b)=false)=(a=b))/\(∀ {a:Bool},(¬(a=true))=(a=false))/\(∀ {a:Bool},(¬(a=false))=(a=true))/\(∀ {p q:Prop},(¬(p\/q))=(¬p/\ ¬q)):=(by simp_all)
end Go.PL
