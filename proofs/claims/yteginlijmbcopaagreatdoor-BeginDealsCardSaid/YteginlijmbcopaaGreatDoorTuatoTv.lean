/- The pure logic: Tua, Tub, Tuc, Tx, Tud, Tp, Tw, PlYi, Tz, Tw2, Tq, Tr, Ts, Tv. -/
import Derived.Test.YteginlijmbcopaaGreatDoorTjtoTu9
import Derived.Test.YteginlijmbcopaaGreatDoorPlRtoPlQa
import Derived.Test.YteginlijmbcopaaGreatDoorTatoPlYg
open List (mem_map map_cons mem_filter all_eq_true mem_cons all_cons nodup_cons mem_range map_nil any_eq_true map_append mem_singleton length_append nil_append filter_sublist headD_nil length_cons getElem?_set append_nil map_map all_nil)
open Bool (and_eq_true not_eq_true' or_eq_true or_eq_false_iff)
open Nat (beq_eq lt_of_lt_of_le le_trans blt_eq le_refl eq_of_beq_eq_true zero_add le_succ ble_eq)
open Option.some (injEq)
open Option (bind_eq_some_iff)
set_option linter.all false
set_option linter.all false
namespace Go.PL
open Go Go.RowKit
variable {T:Bl}
def Aen (P:Program) (o:Oper) (st:Ag T):M (Ag T):=match o.op with
 | .load t x=>match o.dst,st.arg [] x,KO P t with
   | some d,some (.c (.rp id N i off)),some (false,1)=>match Jz st id with
     | some ⟨E,(nn,l,none)⟩=>mIf (E9 id&&Nat.beq N (T.sz E)) (.opt (idx l i) fun x=> .opt (A1 (i<nn)) fun _=>match Gm (T.ks E) (T.un E x) off with
       | some ⟨_,_⟩=> .ret (st.put (some d) (.c (.c (.n_ (1000007::(i.toNat*T.sz E+off)::id)))))
       | none=> .no)
     | _=> .no
   | _,_,_=> .no
 | _=> .no
def Aeo (P:Program) (o:Oper) (st:Ag T):M (Ag T):=match o.op with
 | .indexAddr t x y=>match o.dst,st.arg [] x,st.arg [] y,Dj P t with
   | some d,some (.c (.c (.n_ (m::k::id)))),some (.c (.k (.int _) j)),some (_,n')=>match Jz st id with
     | some ⟨E,(nn,l,none)⟩=>mIf (E9 id&&(Nat.beq m 1000007&&Nat.beq (T.sz E) 1)) (.opt (idx l (k:Int)) fun x=> .opt (A1 ((k:Int)<nn)) fun _=>match Gm (T.ks E) (T.un E x) 0 with
       | some ⟨F,y⟩=>mIf (Nat.beq n' (T.sz F)) (.opt (idx y j) fun _=> .ret (st.put (some d) (.c (.c (.ptr (m::k::id) (j.toNat*n'))))))
       | none=> .no)
     | _=> .no
   | _,_,_,_=> .no
 | _=> .no
def Aep (P:Program) (o:Oper) (st:Ag T):M (Ag T):=match o.op with
 | .store t x y=>match o.dst,st.arg [] x,st.arg [] y,KO P t with
   | none,some (.c (.c (.ptr (m::k::id) off))),some (.c c),some (false,1)=>match Jz st id with
     | some ⟨E,(nn,l,none)⟩=>mIf (E9 id&&(Nat.beq m 1000007&&Nat.beq (T.sz E) 1)) (.opt (idx l (k:Int)) fun x=> .opt (A1 ((k:Int)<nn)) fun _=>match Gm (T.ks E) (T.un E x) 0 with
       | some ⟨F,y⟩=>mIf (Nat.beq (T.sz F) 1) (.opt (idx y (off:Int)) fun v=>match JK c (T.ks F) (T.un F v) 0 with
         | some z=>match Gn F (y.set off (T.bd F z)) (T.ks E) (T.un E x) 0 with
           | some x'=> .ret (st.abT id (.deep E nn (l.set k (T.bd E x')) none))
           | none=> .no
         | none=> .no)
       | none=> .no)
     | _=> .no
   | _,_,_,_=> .no
 | _=> .no
section
variable {H:Az T} {P:Program} {I:World->Prop} {st:Ag T}
theorem Ua {E:Nat} {nn:Int} {l:List (T.den E)} {k off:Nat} {x:T.den E} (hx:l[k]? =some x) (hn:(k:Int)<nn) {F:Nat} {y:List (T.den F)} (hy:Gm (T.ks E) (T.un E x) off=some ⟨F,y⟩):
 (AH T E nn 0 l)[k*T.sz E+off]? =some (.isl F (T.sz F) y.length (y.flatMap (T.enc F))):=by
 obtain⟨hc,acX⟩:=N3 hy;rw [JB hx acX,if_pos (by omega)];exact hc
theorem Abc (hw:AK H st) {o:Oper}:Yl (Aen P o st) (fun d_=>(∃ H',Nx H st H' d_)/\d_.pre=st.pre/\ ∀ K:St->Prop,K d_.toSt->E4 P I o st.toSt K):=by
 unfold Aen;split
 ·rename_i t x hop;split
  ·rename_i d id N i off hd hx ht;split
   ·rename_i E nn l hdr;refine Yl.mIf fun hg=>Yl.opt fun xx hxx=>Yl.opt fun u hu=>?_;simp only [and_eq_true,beq_eq]at hg;obtain⟨g1,g2⟩:=hg;subst g2;split
    ·rename_i F y hy;have hin:=Ck hu;obtain⟨i0,i1,hxi⟩:=IE hxx;obtain⟨a1,a2,a3⟩:=Hd hw hx;obtain⟨hmk,hlr,e,he1,he2,he3⟩:=BW hdr;have hE:e.toE=⟨id,some (E,T.sz E,l.length),AH T E nn 0 l,true⟩:=by unfold DE.toE;rw [he3,he2];rfl
     obtain⟨H4,n4⟩:=Ag.aaL hw (some d) (v:= .c (.c (.n_ (1000007::(i.toNat*T.sz E+off)::id)))) (by simp only [DV.ok,DC.ok]);refine Yl.ret ⟨⟨H4,n4⟩,AW _ _ _,fun K hK Fr a w G Q hI hR=>?_⟩;have hL:st.toSt.Tz id=some e.toE:=hR.U_ (mem_map.2 ⟨e,he1,rfl⟩) (by rw [hE]) g1;have hk:e.toE.cs[i.toNat*T.sz E+off]? =some (.isl F (T.sz F) y.length (y.flatMap (T.enc F))):=by grind [Ua]
     have hxv:=hR.arg rfl a2;rw [a3]at hxv;simp only [DV.toV,DC.toC,Ad,Af]at hxv;obtain⟨b,hb1,hv⟩:=hxv;obtain⟨_,hRE,b2,v,k3,k4,k5⟩:=hR.inner hL hk;rw [hb1]at k3;injection k3 with k3;subst k3;obtain⟨dd,ti,hu',hd',_⟩:=Dl ht;have adj:v.oneCell'=true:=by unfold Ba at hRE;obtain⟨_,v2,c2,c3⟩:=hRE;rw [show (⟨BL (i.toNat*T.sz E+off) id,some (F,T.sz F,y.length),y.flatMap (T.enc F),true⟩:AB).id =BL (i.toNat*T.sz E+off) id from rfl,k5]at c2;injection c2 with c2;subst c2;rcases c3 with ⟨p,rfl,_⟩ | ⟨b',cap,cur,rfl,_⟩<;>rfl
     have J_:(execOp a.eval o).run P w= .ok (.value v) w:=by simp_all [execOp,DP]
     refine AO J_ ⟨_,G,hK,?_⟩;rw [Ag.r_,hd];exact hR.put (by simp only [DV.toV,DC.toC,Ad,Af];exact⟨k5,adj⟩)
    ·exact Yl.no
   ·exact Yl.no
  ·exact Yl.no
 ·exact Yl.no
theorem Abd (hw:AK H st) {o:Oper}:Yl (Aeo P o st) (fun d_=>(∃ H',Nx H st H' d_)/\d_.pre=st.pre/\ ∀ K:St->Prop,K d_.toSt->E4 P I o st.toSt K):=by
 unfold Aeo;split
 ·rename_i t x y hop;split
  ·rename_i d m k id ki j E' n' hd hx hy ht;split
   ·rename_i E nn l hdr;refine Yl.mIf fun hg=>Yl.opt fun xx hxx=>Yl.opt fun u hu=>?_;simp only [and_eq_true,beq_eq]at hg;obtain⟨g1,g2,g3⟩:=hg;subst g2;split
    ·rename_i F r hr;refine Yl.mIf fun hg'=>Yl.opt fun z hz=>?_;have g4:n'=T.sz F:=by simp_all
     subst g4;have hin:=Ck hu;obtain⟨i0,i1,hxi⟩:=IE hxx;obtain⟨j0,j1,_⟩:=IE hz;obtain⟨a1,a2,a3⟩:=Hd hw hx;obtain⟨b1,b2,b3⟩:=Hd hw hy;obtain⟨hmk,hlr,e,he1,he2,he3⟩:=BW hdr;have hE:e.toE=⟨id,some (E,T.sz E,l.length),AH T E nn 0 l,true⟩:=by unfold DE.toE;rw [he3,he2];rfl
     obtain⟨H4,n4⟩:=Ag.aaL hw (some d) (v:= .c (.c (.ptr (1000007::k::id) (j.toNat*T.sz F)))) (by simp only [DV.ok,DC.ok]);refine Yl.ret ⟨⟨H4,n4⟩,AW _ _ _,fun K hK Fr a w G Q hI hR=>?_⟩;have hL:st.toSt.Tz id=some e.toE:=hR.U_ (mem_map.2 ⟨e,he1,rfl⟩) (by rw [hE]) g1;have hk:e.toE.cs[k]? =some (.isl F (T.sz F) r.length (r.flatMap (T.enc F))):=by rw [hE];have:=Ua (nn:=nn) (k:=k) (off:=0) (by simpa using hxi) hin hr;grind
     have hxv:=hR.arg rfl a2;have hyv:=hR.arg rfl b2;rw [a3]at hxv;rw [b3]at hyv;simp only [DV.toV,DC.toC,Bk,Ad,Af]at hxv hyv;obtain⟨_,hRE,_⟩:=hR.inner hL hk;unfold Ba at hRE;obtain⟨_,v2,c2,c3⟩:=hRE;rw [show (⟨BL k id,some (F,T.sz F,r.length),r.flatMap (T.enc F),true⟩:AB).id =BL k id from rfl,show BL k id=1000007::k::id from rfl,hxv.1]at c2;injection c2 with c2;rcases c3 with ⟨p,_,c4,_⟩ | ⟨b',cap,cur,c3,e2,_⟩
     ·omega
     ·have J_:(execOp a.eval o).run P w= .ok (.value (.pointer (some ⟨b',0+j.toNat*T.sz F,none⟩))) w:=by simp [execOp,hop,hyv,c2,c3,Ec ht b' 0 r.length cap ki j j0 j1 w]
      refine AO J_ ⟨_,G,hK,?_⟩;rw [Ag.r_,hd];exact hR.put (by simp only [DV.toV,DC.toC,Ad,Af];exact⟨b',e2,by grind⟩)
    ·exact Yl.no
   ·exact Yl.no
  ·exact Yl.no
 ·exact Yl.no
theorem lQ {F:Nat} {c:C} {v':T.den F} (hs:T.sz F=1) (hv:T.enc F v'=[c]): ∀ {y:List (T.den F)} {off:Nat},off<y.length->(y.set off v').flatMap (T.enc F)=(y.flatMap (T.enc F)).take off++[c]++(y.flatMap (T.enc F)).drop (off+1)
 | [],_,h=>by simp at h
 | a::y,0,_=>by grind [AV]
 | a::y,off+1,h=>by
   have ha:(T.enc F a).length =1:=by rw [AV,hs]
   obtain⟨q,hq⟩: ∃ q,T.enc F a=[q]:=List.length_eq_one_iff.1 ha;have:=lQ hs hv (y:=y) (off:=off) (by simpa using h);simp [hq,this]
theorem Abe (hw:AK H st) {o:Oper}:Yl (Aep P o st) (fun d_=>(∃ H',Nx H st H' d_)/\d_.pre=st.pre/\ ∀ K:St->Prop,K d_.toSt->E4 P I o st.toSt K):=by
 unfold Aep;split
 ·rename_i t x y hop;split
  ·rename_i m k id off c hd hx hy ht;split
   ·rename_i E nn l hdr;refine Yl.mIf fun hg=>Yl.opt fun xx hxx=>Yl.opt fun u hu=>?_;simp only [and_eq_true,beq_eq]at hg;obtain⟨g1,g2,g3⟩:=hg;subst g2;split
    ·rename_i F r hr;refine Yl.mIf fun hg'=>Yl.opt fun v hv0=>?_;have g4:T.sz F=1:=by simp_all
     split
     ·rename_i z hz;split
      ·rename_i x' hx';have hin:=Ck hu;obtain⟨i0,i1,hxi⟩:=IE hxx;obtain⟨j0,j1,hvi⟩:=IE hv0;simp only [Int.toNat_natCast]at hxi hvi;have hkl:k<l.length:=by omega
       have hol:off<r.length:=by omega
       obtain⟨a1,a2,a3⟩:=Hd hw hx;obtain⟨b1,b2,b3⟩:=Hd hw hy;obtain⟨hmk,hlr,e,he1,he2,he3⟩:=BW hdr;obtain⟨z1,z2,_,z3,z4⟩:=N4 hz;obtain⟨w1,w2⟩:=Mz hx';have hE:e.toE=⟨id,some (E,T.sz E,l.length),AH T E nn 0 l,true⟩:=by unfold DE.toE;rw [he3,he2];rfl
       have hk:e.toE.cs[k]? =some (.isl F (T.sz F) r.length (r.flatMap (T.enc F))):=by rw [hE];have:=Ua (nn:=nn) (k:=k) (off:=0) hxi hin hr;grind
       have hv':T.enc F (T.bd F z)=[c.toC]:=by
        have hl1:(BD T.enc (T.ks F) (T.un F v)).length =1:=by have:=AV F v;rw [<-T.abw,g4]at this;exact this
        obtain⟨q,hq⟩:=List.length_eq_one_iff.1 hl1;rw [<-T.abw,T.afT,z2,hq];rfl
       have hfl:=lQ g4 hv' hol;have amU:T.abz E (T.bd E x')=(T.abz E xx).set 0 (.isl F (T.sz F) r.length ((r.flatMap (T.enc F)).take off++[c.toC]++(r.flatMap (T.enc F)).drop (off+[c.toC].length))):=by rw [Bl.abz,T.afT,w1];rw [List.length_set,hfl];rfl
       have aiL:=QG (n:=nn) (k:=0) (x':=T.bd E x') (p:=0) hxi (by omega) amU (by omega);obtain⟨H2,n2⟩:=Ag.abP hw id (x:= .deep E nn (l.set k (T.bd E x')) none) trivial;refine Yl.ret ⟨⟨H2,n2⟩,rfl,fun K hK Fr a w G Q hI hR=>?_⟩;have hm:e.toE∈st.toSt.so:=mem_map.2 ⟨e,he1,rfl⟩;have hL:st.toSt.Tz id=some e.toE:=hR.U_ hm (by rw [hE]) g1;have hxv:=hR.arg rfl a2;rw [a3]at hxv;simp only [DV.toV,DC.toC,Ad,Af]at hxv;obtain⟨b,hb1,hv⟩:=hxv;have hyv:=hR.arg rfl b2;rw [b3]at hyv;simp only [DV.toV,Ad]at hyv;have adj:=hyv.one;have hcl:(a.eval y).cells.toList =[a.eval y]:=by cases hq:a.eval y<;>rw [hq]at adj<;>first | rfl | cases adj
       have hc:Ai w G [c.toC] (a.eval y).cells.toList :=by rw [hcl];exact⟨hyv,trivial⟩
       have aL5:(r.flatMap (T.enc F)).length =r.length:=by rw [Dp (fun y=>AV F y),g4,Nat.mul_one]
       obtain⟨cur,T',c1,c2,c3⟩:=hR.aia hL hk (b:=b) hb1 (off:=off) hc (by grind) (by simp [Au,z3]);have hs:=Eg (P:=P) ht c1 (by grind) c2 (Ai.one hc);generalize w.setRow b _=w1 at hs c3;have J_:(execOp a.eval o).run P w= .ok .skip w1:=by simp_all [execOp]
       refine FA J_ ?_;rw [hd];refine⟨_,G,hK,c3.less ?_⟩;refine Ku (I3.refl _) (I3.refl _) ?_ (Fq n2.ok) rfl;intro u hu;obtain⟨e3,h1,rfl⟩:=mem_map.1 hu;rcases acE hw.nd h1 with ⟨h1,h2⟩ | h1
       ·exact mem_map.2 ⟨e3.toE,mem_map.2 ⟨e3,h1,rfl⟩,(by grind [D7,DE.toE_id])⟩
       ·subst h1;refine mem_map.2 ⟨e.toE,hm,?_⟩;rw [D8 (by rw [hE])];show _=(⟨id,some (E,T.sz E,(l.set k (T.bd E x')).length),AH T E nn 0 (l.set k (T.bd E x')),true⟩:AB);grind
      ·exact Yl.no
     ·exact Yl.no
    ·exact Yl.no
   ·exact Yl.no
  ·exact Yl.no
 ·exact Yl.no
end
end Go.PL
set_option linter.all false
namespace Go.PL
open Go Go.RowKit
variable {T:Bl}
def mkF {den:Nat->Type}:(ks:List Kd)->Option (Int->DK den ks)
 | [.int .u8]=>some fun n=>(n,())
 | _=>none
theorem xM {den:Nat->Type} {enc: ∀ E,den E->List C}: ∀ {ks:List Kd} {f:Int->DK den ks},mkF ks=some f-> ∀ n,BD enc ks (f n)=[.int .u8 n]
 | [.int .u8],f,h,n=>by injection h with h;subst h;rfl
def dby (P:Program) (o:Oper) (st:Ag T):M (Ag T):=match o.op with
 | .convert src dst x=>match st.ev x,sa P dst,Eb P src with
   | .c (.k .str s),some E,true=>match mkF (den:=T.den) (T.ks E)with
     | some f=> .opt (A1 (s.length<=140737488355328)) fun _=> .ret (st.put o.dst (.c (.k (.u_ E) (s.map fun b=>T.bd E (f (b.toNat:Int))))))
     | none=> .no
   | _,_,_=> .no
 | _=> .no
theorem Aeq {H:Az T} {P:Program} {I:World->Prop} {st:Ag T} (hw:AK H st) {o:Oper}:Yl (dby P o st) (fun d_=>(∃ H',Nx H st H' d_)/\d_.pre=st.pre/\ ∀ K:St->Prop,K d_.toSt->E4 P I o st.toSt K):=by
 unfold dby
 split
 ·rename_i src dst x hop;split
  ·rename_i s E hev hb hs;split
   ·rename_i f hf;refine Yl.opt fun u hu=>?_;obtain⟨H4,n4⟩:=Ag.aaL hw o.dst (v:= .c (.k (.u_ E) (s.map fun b=>T.bd E (f (b.toNat:Int))))) (by simp only [DV.ok,DC.ok]);refine Yl.ret ⟨⟨H4,n4⟩,AW _ _ _,fun K hK=>?_⟩;have aiM:=st.acp x;rw [hev]at aiM;have he: ∀ n,T.enc E (T.bd E (f n))=[.int .u8 n]:=fun n=>by rw [<-T.abw,T.afT];exact xM hf n
    have hv:(DV.c (.k (.u_ E) (s.map fun b=>T.bd E (f (b.toNat:Int)))):DV T).toV =vL (eI .u8) (G8 s):=by
     have hfl: ∀ s:List UInt8,(s.map fun b=>T.bd E (f (b.toNat:Int))).flatMap (T.enc E)=(G8 s).flatMap (eI .u8):=fun s=>by
      induction s with
      | nil=>rfl
      | cons b s ih=>
        simp only [G8,map_cons,List.flatMap_cons]at ih ⊢;rw [ih,he];rfl
     have hln: ∀ s:List UInt8,(s.map fun b=>T.bd E (f (b.toNat:Int))).length =(G8 s).length :=fun s=>by simp [G8]
     exact congr (congrArg (fun n l=>V.c (C.sl n l)) (hln s)) (hfl s)
    rw [Ag.r_,hv]at hK;exact E4.bytes E s hop (Ck hu) hK (by rw [aiM];rfl) hs hb
   ·exact Yl.no
  ·exact Yl.no
 ·exact Yl.no
end Go.PL
set_option linter.all false
namespace Go.PL
open Go Go.RowKit
variable {T:Bl}
def RH {P:Program} {I:World->Prop} (g:Nat):List (CE T P I)->Option (List (List UInt8))
 | []=>none
 | e::r=>match e.tab with
   | some (g',t)=>match Nat.beq g' g with
     | true=>some t
     | false=>RH g r
   | none=>RH g r
theorem QJ {P:Program} {I:World->Prop} {g:Nat} {t:List (List UInt8)}: ∀ {l:List (CE T P I)},RH g l=some t->gN I g t
 | [],h=>nomatch h
 | e::r,h=>by
   unfold RH at h;split at h
   ·rename_i g' t' he;split at h
    ·rename_i hb;injection h with h;subst h;have:=eq_of_beq_eq_true hb;subst this;exact e.axJ _ _ he
    ·exact QJ h
   ·exact QJ h
def Ac4 (i:Int) (n:Nat):Option Unit:=A1 (0<=i/\i<((n:Nat):Int))
theorem Abf {i:Int} {n:Nat} {u:Unit} (h:Ac4 i n=some u):0<=i/\i<((n:Nat):Int):=Ck h
def dga (P:Program) (o:Oper) (st:Ag T):M (Ag T):=match o.op with
 | .indexAddr t (.global g) x=>match st.ev x,Gd P t with
   | .c (.k (.int _) i),some (n,_,1)=> .opt (Ac4 i n) fun _=> .ret (st.put o.dst (.c (.c (.agZ g (Int.toNat i)))))
   | _,_=> .no
 | _=> .no
def dgl {P:Program} {I:World->Prop} (Γ:List (CE T P I)) (o:Oper) (st:Ag T):M (Ag T):=match o.op with
 | .load t x=>match st.ev x,KO P t with
   | .c (.c (.agZ g off)),some (false,1)=>match RH g Γ with
     | some tab=> .opt (A1 (off<tab.length)) fun _=> .ret (st.put o.dst (.c (.k .str (tab.getD off []))))
     | none=> .no
   | _,_=> .no
 | _=> .no
theorem Aer {H:Az T} {P:Program} {I:World->Prop} {st:Ag T} (hw:AK H st) {o:Oper}:Yl (dga P o st) (fun d_=>(∃ H',Nx H st H' d_)/\d_.pre=st.pre/\ ∀ K:St->Prop,K d_.toSt->E4 P I o st.toSt K):=by
 unfold dga;split
 ·rename_i t g x hop;split
  ·rename_i k i n E hev ht;refine Yl.opt fun u hu=>?_;obtain⟨H4,n4⟩:=Ag.aaL hw o.dst (v:= .c (.c (.agZ g (Int.toNat i)))) (by simp only [DV.ok,DC.ok]);refine Yl.ret ⟨⟨H4,n4⟩,AW _ _ _,fun K hK=>?_⟩;have aiM:=st.acp x;rw [hev]at aiM;rw [Ag.r_]at hK;exact E4.azz hop (Abf hu) hK (by rw [aiM];rfl) ht
  ·exact Yl.no
 ·exact Yl.no
theorem Aes {H:Az T} {P:Program} {I:World->Prop} {Γ:List (CE T P I)} {st:Ag T} (hw:AK H st) {o:Oper}:Yl (dgl Γ o st) (fun d_=>(∃ H',Nx H st H' d_)/\d_.pre=st.pre/\ ∀ K:St->Prop,K d_.toSt->E4 P I o st.toSt K):=by
 unfold dgl;split
 ·rename_i t x hop;split
  ·rename_i g off hev ht;split
   ·rename_i tab aDb;refine Yl.opt fun u hu=>?_;obtain⟨H4,n4⟩:=Ag.aaL hw o.dst (v:= .c (.k .str (tab.getD off []))) (by simp only [DV.ok,DC.ok]);refine Yl.ret ⟨⟨H4,n4⟩,AW _ _ _,fun K hK=>?_⟩;have aiM:=st.acp x;rw [hev]at aiM;rw [Ag.r_]at hK;exact E4.azy hop (QJ aDb) (Ck hu) hK (by rw [aiM];rfl) ht
   ·exact Yl.no
  ·exact Yl.no
 ·exact Yl.no
end Go.PL
set_option linter.all false
namespace Go.PL
open Go Go.RowKit
variable {T:Bl}
def eX (st:Ag T) (E:Nat):Nat->List (DC T)->Option (List (T.den E)×List Ah)
 | 0,[]=>some ([],[])
 | 0,_::_=>none
 | n+1,cs=>match RD st (T.ks E) (cs.take (T.sz E)),eX st E n (cs.drop (T.sz E))with
   | some (z,rs),some (l,rs')=>some (T.bd E z::l,rs++rs')
   | _,_=>none
structure AiR (st:Ag T) (E:Nat) (cs:List (DC T)) (l:List (T.den E)) (rs:List Ah) (b:Nat) (ars:List AR):Prop where
 ids:ars.map (·.r)=rs
 len:cs.length=l.length*T.sz E
 at_: ∀ x∈ars,st.toSt.look x.r=some x.ent/\b<=x.k/\x.k<b+cs.length/\(Ax cs)[x.k - b]? =some (.n_ x.r)
 anU: ∀ pre post:List C,pre.length=b->Iv (pre++((Ax cs).map M9++post)) ars=pre++(l.flatMap (T.abz E)++post)
 pure:Au ((Ax cs).map M9)=true
 noi:((Ax cs).map M9).all ov=true
theorem pQ (cs:List (DC T)) (n:Nat):Ax cs=Ax (cs.take n)++Ax (cs.drop n):=by grind [Cz,List.take_append_drop]
theorem iv (l:List C) (a b:List AR):Iv l (a++b)=Iv (Iv l a) b:=by grind [Iv]
theorem YZ {st:Ag T} {E:Nat}: ∀ {n:Nat} {cs:List (DC T)} {l:List (T.den E)} {rs:List Ah},eX st E n cs=some (l,rs)-> ∀ b:Nat, ∃ ars,AiR st E cs l rs b ars/\l.length=n
 | 0,[],l,rs,h,b=>by simp only [eX,injEq]at h;injection h with h1 h2;subst h1 h2;exact⟨[],⟨rfl,by simp,(by grind),(fun pre post _=>rfl),rfl,rfl⟩,rfl⟩
 | 0,_::_,_,_,h,_=>by simp [eX]at h
 | n+1,cs,l,rs,h,b=>by
   unfold eX at h;split at h
   ·rename_i z rs1 l' rs' h1 h2;injection h with h;injection h with e1 e2;subst e1 e2;obtain⟨a1,ha⟩:=I7 h1 b;obtain⟨a2,hb,hl⟩:=YZ h2 (b+T.sz E);have hlen:(cs.take (T.sz E)).length =T.sz E:=ha.len;have hle:T.sz E<=cs.length:=by grind
    have hd:(cs.drop (T.sz E)).length =cs.length - T.sz E:=List.length_drop;have htl:(Ax (cs.take (T.sz E))).length =T.sz E:=by rw [AP,hlen]
    have hsp:=pQ cs (T.sz E);have hdz:BP T (T.ks E) z=T.abz E (T.bd E z):=by rw [Bl.abz,T.afT]
    refine⟨a1++a2,⟨by rw [map_append,ha.ids,hb.ids],?_,fun x hx=>?_,fun pre post hp=>?_,?_,?_⟩,by simp [hl]⟩
    ·have:=hb.len;simp_all [Nat.add_mul]
    ·rcases List.mem_append.1 hx with hx | hx
     ·obtain⟨p1,p2,p3,p4⟩:=ha.at_ x hx;grind
     ·obtain⟨p1,p2,p3,p4⟩:=hb.at_ x hx;grind
    ·rw [hsp,map_append,List.append_assoc,iv,ha.anU pre _ hp,hdz];have:=hb.anU (pre++T.abz E (T.bd E z)) post (by grind [Ei]);grind
    ·rw [hsp,map_append,BR,ha.pure,hb.pure];rfl
    ·rw [hsp,map_append,List.all_append,ha.noi,hb.noi];rfl
   ·cases h
theorem HX {E:Nat} {n:Int}: ∀ {l:List (T.den E)} {k:Int},k+l.length<=n->AH T E n k l=l.flatMap (T.abz E)
 | [],_,_=>rfl
 | x::l,k,h=>by simp only [length_cons]at h;rw [AH,if_pos (by omega),HX (by omega),List.flatMap_cons]
def Y0 (rs:List Ah) (r i:Ah):Bool:=match Bc i r with
 | true=>true
 | false=>match Bc i (1000003::r)with
   | true=>true
   | false=>T8 rs (1000003::r) i
theorem N5 {rs:List Ah} {r i:Ah} (h:Y0 rs r i=false):i ≠ r/\i ≠ 1000003::r/\T8 rs (1000003::r) i=false/\D9 (1000003::r) i=false:=by
 unfold Y0 at h;split at h
 ·cases h
 ·rename_i h1;split at h
  ·cases h
  ·rename_i h2;refine⟨(by grind [AQ]),(by grind [AQ]),h,?_⟩;have: ∀ rs:List Ah,T8 rs (1000003::r) i=false->D9 (1000003::r) i=false:=by intro rs;induction rs<;>grind [T8,Kt]
   grind
def dsb (P:Program) (o:Oper) (st:Ag T):M (Ag T):=match o.op,o.dst with
 | .buildSlice t len ps,some d=>match Ed P t,Hc st [] ps.toList with
   | some (E,n,_),some vs=>match Qt P E with
     | some z=>match Vm (fun i=>some (i*n,n)) ((List.replicate len z).flatMap id) (vs.map fun x=>(x.1,TR x.2))with
       | some cs=>match eX st E len cs with
         | some (l,rs)=>mIf ((Nat.beq n (T.sz E)&&(Nat.beq z.length n&&(Nat.blt 0 n&&Nat.ble (len*n) (2 ^ 24))))&&(Nat.blt 0 len&&(Mo rs&&(!Qy rs (d::st.pre)&&(!E9 (d::st.pre)&& !C2 (d::st.pre))))))
          (.ret ((Bm [(1000003::d::st.pre, .deep E (l.length:Nat) l none)] (st.ac_ (Y0 rs (d::st.pre)))).put (some d) (.c (.c (.n_ (1000003::d::st.pre))))))
         | none=> .no
       | none=> .no
     | none=> .no
   | _,_=> .no
 | _,_=> .no
theorem N6 {p q:Ah->Bool} (h: ∀ i,q i=true->p i=true) {v:V} (hv:v.q_ p=false):Bv q v=v:=by unfold Bv;rw [if_neg (by rw [FD h v hv];simp)]
theorem iw {p:Ah->Bool} {r:Ah} (hr:p r=true) {v:V} (hv:v.q_ p=false):EZ r v=v:=by grind [EZ,gH]
theorem eH.put {p:Ah->Bool} {id:Ah} {ns:List Ah} {new:AB} {A B:St} (h:eH p id ns new A B) (d:Nat) {v:V} (hv:v.q_ p=false):eH p id ns new (A.put (some d) v) (B.put (some d) v):=by refine⟨by simp [St.put,h.len],fun i=>?_,h.arW,h.gh,h.so,h.nd,h.pre⟩;have hl:=h.len;have:=h.tm i;simp only [St.put,List.getD_eq_getElem?_getD,getElem?_set,hl]at this ⊢;grind
theorem Aet {H:Az T} {P:Program} {I:World->Prop} {st:Ag T} (hw:AK H st) {o:Oper}:Yl (dsb P o st) (fun d_=>(∃ H',Nx H st H' d_)/\d_.pre=st.pre/\ ∀ K:St->Prop,K d_.toSt->E4 P I o st.toSt K):=by
 unfold dsb;split
 ·rename_i t len ps d hop hd;split
  ·rename_i E n by' vs abX hp;split
   ·rename_i z hz;split
    ·rename_i cs hf;split
     ·rename_i l rs hea;refine Yl.mIf fun hg=>?_;simp only [and_eq_true,beq_eq,blt_eq,ble_eq,not_eq_true']at hg;obtain⟨⟨g1,g2,g3,g4⟩,g5,g6,g7,g8,g9⟩:=hg;subst g1;generalize hr0:d::st.pre=r0 at g7 g8 g9 ⊢;have hrs:r0∉rs:=(by grind [QA]);obtain⟨ars,ha,hl⟩:=YZ hea 0;obtain⟨⟨H1,n1⟩,k4,k5⟩:=MA hw (Y0 rs r0);obtain⟨H2,n2⟩:=I6 (l:=[(1000003::r0,DX.deep E (l.length:Nat) l none)]) n1 (fun p hp=>by rcases mem_singleton.1 hp with rfl;trivial) (by simp) (fun p hp e he q=>by rcases mem_singleton.1 hp with rfl;have:=(N5 (k5 e he).2.1).2.1;exact this q)
      obtain⟨s1,s2,s3,s4,s5,_⟩:=Er [(1000003::r0,DX.deep E (l.length:Nat) l none)] (st.ac_ (Y0 rs r0));obtain⟨H3,n3⟩:=Ag.Th n2 (some d) (v:= .c (.c (.n_ (1000003::r0)))) (by simp only [DV.ok,DC.ok]);refine Yl.ret ⟨⟨H3,n3⟩,by grind [AW],fun K hK F a w G Q hI hR=>?_⟩;obtain⟨p1,p2,p3⟩:=FV (key:=[]) hw (fun _ hl=>by cases hl) rfl hp;obtain⟨z1,z2⟩:=HU hz;obtain⟨f1,_⟩:=JC hf;rw [Qv z (by omega),Yp]at f1;change (st.toSt.parts true ps.toList).1 at p2;change (st.toSt.parts true ps.toList).2=lf vs at p3;rw [<-p3]at f1;obtain⟨abN,q1,q2,q3,q4,q5⟩:=Jo hR abX z1 f1 p2 (by rw [AP];exact g2) g3 g4;have J_:(execOp a.eval o).run P w= .ok (.value (.slice (some ⟨w.heap.size,0,none⟩) len len)) (w.alloc (.cells abN E)):=by simp [execOp,hop,q1]
      have hml:((Ax cs).map M9).length =len*T.sz E:=by grind
      have Tc:=hR.row r0 E (T.sz E) len len ((Ax cs).map M9) abN abN.toList (YQ q2) (by grind) hml q4 (le_refl _) q5 true (fun _=>ha.pure);have ay5:(⟨r0,some (E,T.sz E,len),(Ax cs).map M9,true⟩:AB)∈(st.toSt.new ⟨r0,some (E,T.sz E,len),(Ax cs).map M9,true⟩).so :=by grind [St.new,US,AB.kill]
      have aDx:=Tc.aef ay5 rfl g8 rfl;obtain⟨G2,h2,h3,h4⟩:=Tc.apt aDx rfl rfl ha.noi (id:=1000003::r0) rfl rfl;have aaK:G2.own (1000003::r0)=some (.slice (some ⟨w.heap.size,0,none⟩) len len):=by rw [h3];simp [B0]
      have hL:=h2.U_ List.mem_cons_self rfl rfl;have hb:G2.y_ (1000003::r0)=some w.heap.size:=by obtain⟨hm,_⟩:=OV hL;have hE:=h2.store _ hm;grind [Ba]
      have h5:=h2.put (d:=some d) (v:= .slice (some ⟨w.heap.size,0,none⟩) len len) (x:= .c (.n_ (1000003::r0))) (by simp only [Ad,Af];exact⟨aaK,rfl⟩);have hL5:=h5.U_ (e:=⟨1000003::r0,some (E,T.sz E,len),(Ax cs).map M9,true⟩) (id:=1000003::r0) (by simp only [St.put];exact List.mem_cons_self) rfl rfl;have abR: ∀ e∈st.toSt.so,e.id ≠ r0->e.id ≠ 1000003::r0->(e.pu=true\/CD (Y0 rs r0) e.cs=false)->e∈((st.toSt.new ⟨r0,some (E,T.sz E,len),(Ax cs).map M9,true⟩).j_ (fun i=>i==r0||(i==1000003::r0||D9 (1000003::r0) i)) (⟨1000003::r0,some (E,T.sz E,len),(Ax cs).map M9,true⟩::(((st.toSt.new ⟨r0,some (E,T.sz E,len),(Ax cs).map M9,true⟩).so.filter (fun d=>d.id != r0&&d.id != 1000003::r0)).map (AB.j_ (fun i=>i==r0||(i==1000003::r0||D9 (1000003::r0) i)))))).so :=by
       intro e he e1 e2 e3;simp only [St.j_,mem_cons,mem_map,mem_filter];right;have hk:e.kill r0=e:=by
        obtain⟨i,r,c,pu⟩:=e;cases pu with
        | true=>rfl
        | false=>
          rcases e3 with e3 | e3
          ·cases e3
          ·exact AB.agS (by
            simp only [AB.fre,Bool.false_or,not_eq_true'];cases hq:BO r0 c with
            | false=>rfl
            | true=>
              have:=XJ (Y0 rs r0) r0 c e3 hq;simp [Y0,AQ.2 rfl]at this)
       have hkp:e.j_ (fun i=>i==r0||(i==1000003::r0||D9 (1000003::r0) i))=e:=by
        obtain⟨i,r,c,pu⟩:=e;cases pu with
        | true=>rfl
        | false=>
          rcases e3 with e3 | e3
          ·cases e3
          ·simp only [AB.j_,AB.mk.injEq,true_and,and_true];grind [T0,FC,Y0,N5]
       grind [St.new,US,St.kill]
      have ahS: ∀ i,(i==r0||(i==1000003::r0||D9 (1000003::r0) i))=true->Y0 rs r0 i=true:=(by grind [Y0,N5]);have auf: ∀ i,T8 rs (1000003::r0) i=true->Y0 rs r0 i=true:=(by grind [N5]);have aug:Y0 rs r0 r0=true:=by grind
      have ajz: ∀ v:V,v.q_ (Y0 rs r0)=false->Bv (fun i=>i==r0||(i==1000003::r0||D9 (1000003::r0) i)) (EZ r0 v)=v:=(by grind [iw,N6]);have aD2:(C.n_ (1000003::r0)).q_ (T8 rs (1000003::r0))=false:=by
       simp only [C.q_];have: ∀ rs':List Ah,(∀ x∈rs',E9 x=false)->T8 rs' (1000003::r0) (1000003::r0)=false:=by
        intro rs';induction rs' with
        | nil=>
          intro _;simp only [T8,Kt];cases hq:D9 (1000003::r0) (1000003::r0)with
          | false=>rfl
          | true=>have:=Gi hq;cases this
        | cons y rs' ih=>
          intro hy;simp only [T8];split
          ·rename_i hq;have:=AQ.1 hq;have h8:=hy y (by simp);rw [<-this]at h8;cases h8
          grind
       refine this rs fun x hx=>?_;rw [<-ha.ids]at hx;obtain⟨ar,har,rfl⟩:=mem_map.1 hx;exact Fp (ha.at_ ar har).1
      obtain⟨G',q⟩:=h5.ai7 (p:=T8 rs (1000003::r0)) ars hL5 hb (fun ar har=>by
       obtain⟨p1,_,p3',p4⟩:=ha.at_ ar har;obtain⟨hmr,ahT⟩:=Bi p1;have hnd:=Fp p1;have hin:ar.r∈rs:=by rw [<-ha.ids];grind
       have hrr:ar.r ≠ r0:=(by grind);have hrD:ar.r ≠ 1000003::r0:=fun q=>by rw [q]at hnd;cases hnd
       obtain⟨v,v1,v2⟩:=YR q2 p4;simp only [Af]at v2;refine⟨h5.aef (abR _ hmr (by grind) (by grind) (.inl rfl)) ahT hnd rfl,by grind,ir hin,v,?_,?_⟩
       all_goals simp_all [B0]) (by rw [ha.ids];exact HM g6) ((Bm [(1000003::r0,DX.deep E (l.length:Nat) l none)] (st.ac_ (Y0 rs r0))).put (some d) (.c (.c (.n_ (1000003::r0))))).toSt (by
       rw [Ag.r_];refine eH.put ?_ d (by grind [V.q_]);have aaO:bU (1000003::r0,(DX.deep E (l.length:Nat) l none:DX T))=⟨1000003::r0,some (E,T.sz E,len),Iv ((Ax cs).map M9) ars,true⟩:=by show (⟨1000003::r0,some (E,T.sz E,l.length),AH T E (l.length:Nat) 0 l,true⟩:AB)=_;have:=ha.anU [] [] rfl;grind [HX]
       have etm:(Bm [(1000003::r0,DX.deep E (l.length:Nat) l none)] (st.ac_ (Y0 rs r0))).toSt.tm =(st.ac_ (Y0 rs r0)).toSt.tm :=by grind [Ag.toSt]
       have egh:(Bm [(1000003::r0,DX.deep E (l.length:Nat) l none)] (st.ac_ (Y0 rs r0))).toSt.gh =(st.ac_ (Y0 rs r0)).toSt.gh :=by simp only [Ag.toSt,s2]
       have hz2: ∀ (r:Ah),EZ r .undef = .undef :=fun r=>by simp [EZ,V.E_]
       have hz3: ∀ (p:Ah->Bool),Bv p .undef = .undef :=fun p=>by simp [Bv,V.q_]
       have gm: ∀ (m:List V) (f:V->V),f .undef = .undef -> ∀ i,(m.map f).getD i .undef =f (m.getD i .undef):=(by grind);refine⟨?_,fun i=>?_,?_,fun i=>?_,fun x hx=>?_,Fq n2.ok,?_⟩
       ·rw [etm];show (AI _ _).length =_;simp only [St.j_,St.new,St.kill,List.length_map,Bt];show _=(AI _ _).length;rw [Bt];rfl
       ·rw [etm];rcases YO (p:=Y0 rs r0) st.m st.nx st.tm i with q | ⟨q,q'⟩
        ·exact .inl q
        ·right;have e:(St.j_ (st.toSt.new ⟨r0,some (E,T.sz E,len),(Ax cs).map M9,true⟩) (fun i=>i==r0||(i==1000003::r0||D9 (1000003::r0) i)) (⟨1000003::r0,some (E,T.sz E,len),(Ax cs).map M9,true⟩::(((st.toSt.new ⟨r0,some (E,T.sz E,len),(Ax cs).map M9,true⟩).so.filter (fun d=>d.id != r0&&d.id != 1000003::r0)).map (AB.j_ (fun i=>i==r0||(i==1000003::r0||D9 (1000003::r0) i)))))).tm.getD i .undef =st.toSt.tm.getD i .undef :=by simp only [St.j_,St.new,St.kill];rw [gm _ _ (hz3 _),gm _ _ (hz2 _)];exact ajz _ q'
         rw [e];exact⟨q,FD auf _ q'⟩
       ·rw [egh];have:=(lM (p:=Y0 rs r0) st.gh (st.nx+st.tm.length)).1;simp only [St.j_,St.new,St.kill,List.length_map];exact this
       ·rw [egh];rcases (lM (p:=Y0 rs r0) st.gh (st.nx+st.tm.length)).2 i with q | ⟨q,q'⟩
        ·exact .inl q
        ·right;have e:(St.j_ (st.toSt.new ⟨r0,some (E,T.sz E,len),(Ax cs).map M9,true⟩) (fun i=>i==r0||(i==1000003::r0||D9 (1000003::r0) i)) (⟨1000003::r0,some (E,T.sz E,len),(Ax cs).map M9,true⟩::(((st.toSt.new ⟨r0,some (E,T.sz E,len),(Ax cs).map M9,true⟩).so.filter (fun d=>d.id != r0&&d.id != 1000003::r0)).map (AB.j_ (fun i=>i==r0||(i==1000003::r0||D9 (1000003::r0) i)))))).gh.getD i .undef =st.toSt.gh.getD i .undef :=by simp only [St.j_,St.new,St.kill];rw [gm _ _ (hz3 _),gm _ _ (hz2 _)];exact ajz _ q'
         rw [e];exact⟨q,FD auf _ q'⟩
       ·rw [s5]at hx;simp only [map_cons,map_nil,List.singleton_append,mem_cons]at hx;rcases hx with rfl | hx
        ·grind
        ·right;obtain⟨e,he,rfl⟩:=mem_map.1 hx;obtain⟨c1,c2,c3⟩:=k5 e he;obtain⟨t1,t2,t3,_⟩:=N5 c2;have hpm:e.toE.pu=true\/CD (Y0 rs r0) e.toE.cs=false:=by
          unfold DE.toE;cases hx:e.x with
          | box cs=>
            right;rw [hx]at c3;simpa only [DX.q_,F3] using c3
          | row E l=>grind
          | deep E n l h=>grind
         refine⟨abR _ (mem_map.2 ⟨e,c1,rfl⟩) (by rw [DE.toE_id];exact t1) (by rw [DE.toE_id];exact t2) hpm,by rw [DE.toE_id];exact t2,?_,(by grind [FC])⟩;rw [DE.toE_id,ha.ids];grind [W5]
       ·show (Bm _ _).pre =st.pre;grind)
      grind [AO]
     ·exact Yl.no
    ·exact Yl.no
   ·exact Yl.no
  ·exact Yl.no
 ·exact Yl.no
end Go.PL
set_option linter.all false
namespace Go.PL
open Go Go.RowKit
mutual
theorem sH (p q:Ah->Bool): ∀ c:C,c.q_ (fun i=>p i||q i)=(c.q_ p||c.q_ q)
 | .n_ _=>rfl
 | .ptr _ _=>rfl
 | .rsl _ _ _ _=>rfl
 | .bsl _ _ _=>rfl
 | .bld _ _=>rfl
 | .agP _=>rfl
 | .clo _ cs=>by simp_all [C.q_,Y1]
 | .bmv _ cs=>by simp_all [C.q_,Y1]
 | .int .. =>rfl
 | .bool _=>rfl
 | .str _=>rfl
 | .sl .. =>rfl
 | .acm .. =>rfl
 | .acV =>rfl
 | .aaJ =>rfl
 | .Tv =>rfl
 | .fn _=>rfl
 | .held =>rfl
 | .any =>rfl
 | .agZ .. =>rfl
 | .mp _=>rfl
 | .isl .. =>rfl
theorem Y1 (p q:Ah->Bool): ∀ cs:List C,CD (fun i=>p i||q i) cs=(CD p cs||CD q cs)
 | []=>rfl
 | c::cs=>by simp only [CD,sH p q c,Y1 p q cs];grind
end
theorem uY (p q:Ah->Bool) (c:C):Cj q (Cj p c)=Cj (fun i=>p i||q i) c:=by unfold Cj;rw [sH];grind
theorem AB.aro (p q:Ah->Bool) (e:AB):(e.j_ p).j_ q=e.j_ (fun i=>p i||q i):=by
 obtain⟨i,r,cs,_ | _⟩:=e
 all_goals simp_all [AB.j_,uY]
def lR (q id i:Ah):Bool:=i==q||(D9 q i||D9 id i)
def pR (q id:Ah) (off:Nat) (i:Ah):Option Ah:=if i=q then none else match i with
 | m::k::r=>if m=1000007 then(if r=q then none else if r=id/\off<=k then some (1000007::(k - off)::q)else some (m::k::r))else some (m::k::r)
 | i=>some i
theorem xN (k:Nat) (i:Ah):BL k i=1000007::k::i:=rfl
theorem Aeu {q id:Ah} {off k:Nat} (hq:C2 q=false) (hne:id ≠ q):pR q id off (BL (off+k) id)=some (BL k q):=by unfold pR;rw [if_neg (CB hq _).symm];simp [xN,hne]
theorem Aev {q id:Ah} {off k:Nat} (hq:C2 q=false) (hne:id ≠ q) (hk:k<off):pR q id off (BL k id)=some (BL k id):=by unfold pR;rw [if_neg (CB hq _).symm];simp [xN,hne];omega
theorem xO {q id:Ah} {off:Nat} {i:Ah} (h:lR q id i=false):pR q id off i=some i:=by
 simp only [lR,or_eq_false_iff,beq_eq_false_iff_ne]at h;obtain⟨h1,h2,h3⟩:=h;unfold pR;rw [if_neg h1];split
 ·rename_i m k r;split
  ·rename_i hm;subst hm;have a1:r ≠ q:=(by simp_all [D9]);have a2:r ≠ id:=(by simp_all [D9]);grind
  ·rfl
 ·rfl
theorem Abg {q id:Ah} {off:Nat} {i j a:Ah} (h1:pR q id off i=some a) (h2:pR q id off j=some a):i=j:=by
 have key: ∀ i a,pR q id off i=some a->(i=a/\(∀ k,a ≠ 1000007::k::q))\/ ∃ k,i=1000007::(off+k)::id/\a=1000007::k::q:=by
  intro i a h;have short: ∀ i:Ah,i.length<2->pR q id off i=some a->i=a:=fun i hi h=>by
   rcases i with _ | ⟨m,_ | ⟨k,r⟩⟩
   all_goals grind [pR]
  by_cases hl:i.length<2
  ·grind
  ·rcases i with _ | ⟨m,_ | ⟨k,r⟩⟩
   all_goals grind [pR]
 grind
def wl:C->C
 | .isl .. => .any
 | c=>c
theorem lS: ∀ {cs:List C},Au cs=true->Au (cs.map wl)=true
 | [],_=>rfl
 | c::cs,h=>by simp only [map_cons,Au,and_eq_true]at h ⊢;exact⟨by cases c<;>first | exact h.1 | rfl,lS h.2⟩
theorem sJ: ∀ cs:List C,(cs.map wl).all ov=true
 | []=>rfl
 | c::cs=>by simp only [map_cons,all_cons,and_eq_true];exact⟨by cases c<;>rfl,sJ cs⟩
theorem lT {w:World} {G:AJ}: ∀ {cs:List C} {vs:List Value},Ai w G cs vs->Ai w G (cs.map wl) vs
 | [],[],_=>by simp [Ai]
 | [],_::_,h=>by grind
 | _::_,[],h=>by simp [Ai]at h
 | c::cs,v::vs,h=>by simp only [Ai,map_cons]at h ⊢;exact⟨by cases c<;>exact h.1,lT h.2⟩
theorem Y2 {w:World} {G:AJ}: ∀ {cs:List C} {b o:Nat},Am w G (cs.map wl) b o↔Am w G cs b o
 | [],_,_=>Iff.rfl
 | c::cs,b,o=>by simp only [map_cons,Am,Y2 (cs:=cs)];cases c<;>exact Iff.rfl
section
variable {F:Fr} {st:St} {a:Act} {w:World} {G:AJ}
theorem R.aq8 (h:R F st a w G) {id q:Ah} {e eq:AB} (hl:st.Tz id=some e) (hq:st.Tz q=some eq) (hne:id ≠ q) {b off:Nat} (hb:G.y_ id=some b) (acX:off<=e.cs.length) (hdr:e.cs.drop off=eq.cs.map wl)
 (aco: ∀ k E n len cs v,eq.cs[k]? =some (.isl E n len cs)->G.own (BL k q)=some v->w.cell? ⟨b,off+k,none⟩=some v):
 ∃ G',R F (st.j_ (lR q id) (((st.so.filter (fun d=>d.id != q)).map (AB.j_ (lR q id))).map (aar id e.row (e.cs.take off++eq.cs)))) a w G'/\G'.own id=G.own id:=by
 obtain⟨hm,hid,hd,hmk,hpu,hpe,hi,E0,n0,ajp,hr0⟩:=h.abx hl;obtain⟨hmq,aze,hdq,avW,aLz,aDq,hiq,_⟩:=h.abx hq;let G':AJ:=⟨fun i=>(pR q id off i).bind G.y_,fun i=>(pR q id off i).bind G.own,fun b=>F.av b\/ ∃ i,(pR q id off i).bind G.y_=some b⟩;have hag: ∀ i,lR q id i=false->G'.y_ i=G.y_ i/\G'.own i=G.own i:=by intro i hpi;simp only [G',xO hpi,Option.bind_some,and_self]
 have t:I_ F (lR q id) (fun _=>false) G G' w w:=G6 h G' rfl hag (by grind [bind_eq_some_iff]) (fun i j b hib hjb=>by obtain⟨x,hx,hx2⟩:=bind_eq_some_iff.1 hib;obtain⟨y,hy,hy2⟩:=bind_eq_some_iff.1 hjb;have:=h.inj _ _ b hx2 hy2;grind [Abg])
 have pid:lR q id id=false:=by grind [Gi,lR]
 have gid:=hag id pid;have ghi: ∀ k,G'.y_ (BL (off+k) id)=G.y_ (BL k q)/\G'.own (BL (off+k) id)=G.own (BL k q):=fun k=>by simp only [G',Aeu avW hne,Option.bind_some,and_self]
 have glo: ∀ k,k<off->G'.y_ (BL k id)=G.y_ (BL k id)/\G'.own (BL k id)=G.own (BL k id):=fun k hk=>by simp only [G',Aev avW hne hk,Option.bind_some,and_self]
 obtain⟨E1,n1,amK,v1,acy,akS,g1,g2,g3,g4,g5,g6,g7,g8,g9⟩:=h.ael hl hb;have ac7:Au (e.cs.take off++eq.cs)=true:=by rw [BR,aDq,Bool.and_true];grind [B6]
 have hlen:(e.cs.take off++eq.cs).length =e.cs.length:=by have:=congrArg List.length hdr;grind
 have hno: ∀ cs:List C,Au cs=true->Jd (fun i=>BO i cs=true) G G':=fun cs hp i hi'=>absurd (show BO i cs=true from hi') (by rw [AU i cs hp];simp);have afY:Ba w G' ⟨id,e.row,e.cs.take off++eq.cs,true⟩:=by
  unfold Ba;rw [g1];refine⟨by grind,v1,by grind, .inr ⟨b,acy,akS,g4,by grind,g5,g6,g7,g8,?_⟩⟩;have h9:=Am.mono t.keeps _ _ _ (hno _ hpe) (fun _=>rfl) g9;rw [<-Y2]at h9 ⊢;have:(e.cs.take off++eq.cs).map wl=e.cs.map wl:=by
   rw [map_append, <-hdr];have e1:(e.cs.drop off).map wl=e.cs.drop off:=by rw [hdr,map_map];exact List.map_congr_left fun c _=>by cases c<;>rfl
   grind [List.take_append_drop]
  grind
 have hin:EP w G' ⟨id,e.row,e.cs.take off++eq.cs,true⟩:=by
  intro j E2 n2 abU cs2 hj;by_cases hjo:j<off
  ·rw [List.getElem?_append_left (by simp;omega),List.getElem?_take_of_lt hjo]at hj;obtain⟨k1,k2,b2,v2,k3,k4,k5⟩:=h.inner hl hj;have gjj:=glo j hjo;exact⟨k1,Cq t.keeps (hno _ k1) gjj (fun _ _=>rfl) k2,b2,v2,by grind,k4,by grind⟩
  ·obtain⟨k,rfl⟩: ∃ k,j=off+k:=(by grind);rw [List.getElem?_append_right (by simp;omega),List.length_take,Nat.min_eq_left acX,Nat.add_sub_cancel_left]at hj;obtain⟨k1,k2,b2,v2,k3,k4,k5⟩:=h.inner hq hj;obtain⟨gh1,gh2⟩:=ghi k;exact⟨k1,gT t.keeps k1 gh1 gh2 k2,b,v2,by grind,(by grind),by grind⟩
 have aau:=t.aok h hl (fun d=>d.id != q) (fun d hd' hf ad4=>by
  have hdm:=(h.deep d hd').1;have hdq:d.id ≠ q:=by grind
  have ofF: ∀ x,D9 x d.id=false:=(by grind [Gi]);refine⟨by simp [lR,hdq,ofF],rfl,fun _ k=>⟨?_,rfl⟩⟩;grind [CB,lR,Il]) (by rw [g1];rfl) afY hin ac7
 exact⟨G',t.agr h _ aau.1 aau.2.1 aau.2.2.1 aau.2.2.2,gid.2⟩
end
variable {T:Bl}
def iy:Option (DC T)->Bool
 | some (.c .Tv)=>true
 | _=>false
def Abh (i:Ah) (j:Nat) (k:Ah) (s:Ag T):Option (Ag T):=match Jy s i with
 | some cs=>match iy cs[j]? with
   | true=>some (s.abT i (.box (cs.set j (.c (.n_ k)))))
   | false=>none
 | none=>none
def Ag.own (st:Ag T) (i:Ah) (j:Nat) (k:Ah) (E:Nat):Option (Ag T):=match k with
 | 1000003::k0=>match st.new k0 (.row E [])with
   | some s=>match dpn k0 s with
     | some s=>Abh i j (1000003::k0) s
     | none=>none
   | none=>none
 | k=>match st.new k (.row E [])with
   | some s=>Abh i j k s
   | none=>none
theorem lU {o:Option (DC T)} (h:iy o=true):o=some (.c .Tv):=by grind [iy]
theorem eY {H:Az T} {s s':Ag T} {i k:Ah} {j:Nat} (h:AK H s) (ho:Abh i j k s=some s'):(∃ H',Nx H s H' s')/\s'.pre=s.pre/\ ∀ (F:Fr) (a:Act) (w:World) (G:AJ),R F s.toSt a w G->G.own k=some (.slice none 0 0)->R F s'.toSt a w G:=by
 unfold Abh at ho;split at ho
 ·rename_i cs hb;split at ho
  ·rename_i hn;injection ho with ho;subst ho;have hc:=lU hn;have hok:(DX.box (cs.set j (.c (.n_ k)))).ok :=C6.2 fun c hm=>by
    rcases List.mem_or_eq_of_mem_set hm with q | q
    ·exact C6.1 (Rr h hb) c q
    grind [DC.ok]
   obtain⟨H2,n2⟩:=Ag.abP h i hok;refine⟨⟨H2,n2⟩,rfl,fun F a w G hR ho=>?_⟩;obtain⟨hl,_,e,e1,e2,e3⟩:=Hb hb;have arL:s.toSt.ajl i j=true:=by
    unfold St.ajl;rw [hl];have:(Ax cs)[j]? =some .Tv :=by rw [Cz,List.getElem?_map,hc];rfl
    grind
   have aiL:(s.abT i (.box (cs.set j (.c (.n_ k))))).toSt =s.toSt.setCell i j (.n_ k):=by
    have hF:=Ym (t:=s.nx) (x:= .box (cs.set j (.c (.n_ k)))) (F:=fun e=>if e.id==i&& !e.pu then⟨e.id,e.row,e.cs.set j (.n_ k),false⟩else e) (id:=i)
     (by grind) h.nd e1 e2 (by
      simp_all [DE.toE,Cz,DC.toC])
    simp_all [Ag.toSt,Ag.abT,St.setCell]
   rw [aiL];exact hR.setCell arL ho
  ·cases ho
 ·cases ho
theorem xP {H:Az T} {st d_:Ag T} {i k:Ah} {j E:Nat} (h:AK H st) (ho:st.own i j k E=some d_):(∃ H',Nx H st H' d_)/\Wk st.toSt d_.toSt/\d_.pre=st.pre:=by
 unfold Ag.own at ho;split at ho
 ·rename_i k0;split at ho
  ·rename_i s hs;split at ho
   ·rename_i s2 hs2;obtain⟨⟨H1,n1⟩,h2,h3⟩:=Ag.acW h (x:= .row E []) trivial hs;obtain⟨⟨H2,n2⟩,p2,k2⟩:=lN n1.ok hs2;obtain⟨⟨H3,n3⟩,p3,k3⟩:=eY n2.ok ho;refine⟨⟨H3,(n1.trans n2).trans n3⟩,?_,by grind⟩;intro F a w G hR;have q1:=hR.anZ k0 E (T.sz E);have e5:(⟨k0,0,DX.row E []⟩:DE T).toE =⟨k0,some (E,T.sz E,0),[],true⟩:=rfl;rw [e5]at h2;obtain⟨G',g1,g2⟩:=k2 _ _ _ _ (q1.less h2);exact⟨G',(by simp_all [B0])⟩
   ·cases ho
  ·cases ho
 ·split at ho
  ·rename_i s hs;obtain⟨⟨H1,n1⟩,h2,h3⟩:=Ag.acW h (x:= .row E []) trivial hs;obtain⟨⟨H3,n3⟩,p3,k3⟩:=eY n1.ok ho;refine⟨⟨H3,n1.trans n3⟩,?_,by rw [p3,h3]⟩;intro F a w G hR;have q1:=hR.anZ k E (T.sz E);have e5:(⟨k,0,DX.row E []⟩:DE T).toE =⟨k,some (E,T.sz E,0),[],true⟩:=rfl;rw [e5]at h2;exact⟨_,k3 _ _ _ _ (q1.less h2) (by simp [B0])⟩
  ·cases ho
def ajl (st:Ag T) (i:Ah) (j:Nat):Bool:=match Jy st i with
 | some cs=>iy cs[j]?
 | none=>false
def iz:List (Ah×Nat×Ah×Nat)->Ag T->Option (Ag T)
 | [],st=>some st
 | (i,j,k,E)::r,st=>match ajl st i j with
   | false=>iz r st
   | true=>match st.own i j k E with
     | some s=>iz r s
     | none=>none
theorem Ub {H0:Az T} {st0:Ag T}: ∀ {l:List (Ah×Nat×Ah×Nat)} {st d_:Ag T} {H:Az T},Nx H0 st0 H st->iz l st=some d_->(∃ H',Nx H0 st0 H' d_)/\Wk st.toSt d_.toSt/\d_.pre=st.pre
 | [],st,d_,H,hN,h=>by simp only [iz,injEq]at h;subst h;exact⟨⟨H,hN⟩,Wk.less (CH.refl _),rfl⟩
 | (i,j,k,E)::r,st,d_,H,hN,h=>by
   simp only [iz]at h;split at h
   ·exact Ub hN h
   split at h
   ·rename_i s hs;obtain⟨⟨H1,n1⟩,w1,p1⟩:=xP hN.ok hs;obtain⟨a,b,c⟩:=Ub (hN.trans n1) h;exact⟨a,w1.trans b,c.trans p1⟩
   ·cases h
def QK (q id i:Ah):Bool:=match Bc i id with
 | true=>true
 | false=>match Bc i q with
   | true=>true
   | false=>match KX.aeS q i with
     | true=>true
     | false=>KX.aeS id i
theorem iA (q id:Ah):QK q id=fun i=>(i==id)||lR q id i:=by grind [QK,lR,Kt,CI]
def dad (P:Program) (o:Oper) (st:Ag T):M (Ag T):=match o.op,o.dst with
 | .call c,some d=>match c.callee,c.args.toList,c.argTypes.toList with
   | .builtin .append,[u,x],[t,t']=>match st.arg [] u,st.arg [] x,Ed P t with
     | some (.c (.c (.n_ id))),some (.c (.c (.n_ q))),some (E',n,by')=>match Jz st id,Jz st q with
       | some ⟨E,(nn,l,none)⟩,some ⟨E2,(mm,m,none)⟩=>match YM E E2 m with
         | some m'=>mIf (Nat.beq t t'&&(Nat.beq E' E&&(Nat.beq n (T.sz E)&&(Nat.blt 0 n&&(E9 id&&(E9 q&& !Bc id q)))))) (.opt (app by' l m') fun r=> .opt (A1 (nn=(l.length:Int)/\mm=(m'.length:Int)/\0<m'.length)) fun _=>
          .ret ((Bm [(id, .deep E (r.length:Nat) r none)] (st.Ti (QK q id))).put (some d) (.c (.c (.n_ id)))))
         | none=> .no
       | _,_=> .no
     | _,_,_=> .no
   | _,_,_=> .no
 | _,_=> .no
theorem Aew {H:Az T} {P:Program} {I:World->Prop} {st:Ag T} (hw:AK H st) {o:Oper}:Yl (dad P o st) (fun d_=>(∃ H',Nx H st H' d_)/\d_.pre=st.pre/\ ∀ K:St->Prop,K d_.toSt->E4 P I o st.toSt K):=by
 unfold dad;split
 case h_2=>exact Yl.no
 rename_i c d hop ahU;split
 case h_2=>exact Yl.no
 rename_i u x t t' ae5 acY apY;split
 case h_2=>exact Yl.no
 rename_i id q E' n by' hu hx abX;split
 case h_2=>exact Yl.no
 rename_i E nn l E2 mm m hdi hdq;split
 case h_2=>exact Yl.no
 rename_i m' azm;refine Yl.mIf fun hg=>Yl.opt fun r hr=>Yl.opt fun un hun=>?_;simp only [and_eq_true,beq_eq,blt_eq,not_eq_true']at hg;obtain⟨g1,g2,g3,g4,g5,g6,g7⟩:=hg;subst g1 g2 g3;obtain⟨e2,hm'⟩:=JJ azm;subst e2;replace hm':m'=m:=hm';subst hm';obtain⟨hnn,hmm,hm0⟩:=Ck hun;have hrx:=wN hr;have hrb:=rW hr;have hne:id ≠ q:=fun e=>by rw [AQ.2 e]at g7;cases g7
 obtain⟨aDt,_,ei,aDR,aDQ,aDP⟩:=BW hdi;obtain⟨avW,_,eq,aDM,aDL,aDK⟩:=BW hdq;have hE:ei.toE=⟨id,some (E2,T.sz E2,l.length),AH T E2 nn 0 l,true⟩:=by unfold DE.toE;rw [aDP,aDQ];rfl
 have hQ:eq.toE=⟨q,some (E2,T.sz E2,m'.length),AH T E2 mm 0 m',true⟩:=by unfold DE.toE;rw [aDK,aDL];rfl
 obtain⟨⟨H1,n1⟩,k1,k2,k3,k4,k5⟩:=Ag.acJ hw (QK q id);obtain⟨H2,n2⟩:=I6 (l:=[(id,DX.deep E2 (r.length:Nat) r none)]) n1 (fun p hp=>by rcases mem_singleton.1 hp with rfl;trivial) (by simp) (fun p hp e he q'=>by rcases mem_singleton.1 hp with rfl;have:=k5 e he;rw [iA,q']at this;simp at this)
 obtain⟨s1,s2,s3,s4,s5,_⟩:=Er [(id,DX.deep E2 (r.length:Nat) r none)] (st.Ti (QK q id));obtain⟨H3,n3⟩:=Ag.Th n2 (some d) (v:= .c (.c (.n_ id))) (by simp only [DV.ok,DC.ok]);refine Yl.ret ⟨⟨H3,n3⟩,by rw [AW,s3];exact k4,fun K hK F a w G Q hI hR=>?_⟩;obtain⟨a1,a2,a3⟩:=Hd hw hu;obtain⟨b1,b2,b3⟩:=Hd hw hx;have huv:=hR.arg rfl a2;have hxv:=hR.arg rfl b2;rw [a3]at huv;rw [b3]at hxv;simp only [DV.toV,DC.toC,Ad,Af]at huv hxv;have hmi:ei.toE∈st.toSt.so:=mem_map.2 ⟨ei,aDR,rfl⟩;have hmq:eq.toE∈st.toSt.so:=mem_map.2 ⟨eq,aDM,rfl⟩;have hL:st.toSt.Tz id=some ei.toE:=hR.U_ hmi (by rw [hE]) g5;have hLq:st.toSt.Tz q=some eq.toE:=hR.U_ hmq (by rw [hQ]) g6;have hpq:Au eq.toE.cs=true:=hR.P_ _ hmq (by rw [hQ]);obtain⟨v,xs,c1,c2,c3,c4⟩:=Dy (e:=ei.toE) (by rw [hE]) (hR.store _ hmi);obtain⟨vq,us,d1,d2,d3,d4⟩:=Dy (e:=eq.toE) (by rw [hQ]) (hR.store _ hmq);rw [show ei.toE.id=id by rw [hE],huv.1]at c1;injection c1 with c1;rw [show eq.toE.id=q by rw [hQ],hxv.1]at d1;injection d1 with d1;obtain⟨i,z,hty,hi,hz,hsz,hby,hzs⟩:=Dz abX;rcases d4 with ⟨d4,d5⟩ | ⟨_,_,d4,_⟩
 case inr=>omega
 obtain⟨bq,ar2,aFb,p1,_,p2,p3,p4,p5,p6⟩: ∃ g cap cur,vq= .slice (some ⟨g,0,none⟩) m'.length cap/\0<=g/\w.heap[g]? =some (.cells cur E2 (0,0))/\m'.length<=cap/\cap<=maxLen/\cur.size=cap*T.sz E2/\cur.toList.take (m'.length*T.sz E2)=us:=by
  rcases d4.2 with ⟨_,h0⟩ | h1
  ·omega
  ·exact h1
 have hul:us.length=m'.length*T.sz E2:=d4.1;have hbq:G.y_ q=some bq:=by rw [<-show eq.toE.id=q by rw [hQ], <-d5,p1];rfl
 have aeu: ∀ j u',us[j]? =some u'->w.cell? ((⟨bq,0,none⟩:Addr).add j)=some u':=d4.cells (g:=bq) (by rw [p1];rfl);have adj: ∀ u∈us,u.oneCell'=true:=Ai.one d3;have av5: ∀ k E2 n len cs v,eq.toE.cs[k]? =some (.isl E2 n len cs)->G.own (BL k q)=some v->us[k]? =some v:=by
  intro k E2 n len cs v hk ho;obtain⟨_,_,b2,v2,i1,i2,i3⟩:=hR.inner hLq hk;rw [hbq]at i1;injection i1 with i1;subst i1;rw [ho]at i3;injection i3 with i3;subst i3;have hkl:k<us.length:=by have:=d3.length;have:=(List.getElem?_eq_some_iff.1 hk).1;omega
  have:=aeu k us[k] (List.getElem?_eq_getElem hkl);rw [Addr.add_mid]at this;rw [List.getElem?_eq_getElem hkl];have e0:(⟨bq,0+k,none⟩:Addr)=⟨bq,k,none⟩:=by rw [zero_add]
  rw [e0,i2]at this;exact this.symm
 have main: ∀ v0 v' w',(Builtin.append_ #[t,t] o.type #[a.eval u,a.eval x]).run P w= .ok v' w'->v0.ownBlock=G.y_ id->(∀ b j u',G.y_ id=some b->xs[j]? =some u'->w.cell? ⟨b,j,none⟩=some u')->w.ownsRow 0 E2 (T.sz E2) v0 l.length xs->w'.ownsRow 0 E2 (T.sz E2) v' (l.length+m'.length) (xs++us)->w.grownBy w' v0.ownBlock->(v'.ownBlock=v0.ownBlock\/ ∀ b,v'.ownBlock=some b->w.heap.size<=b)->o.wp P a w (ot F K) Q:=by
  intro v0 v' w' J_ hob hxc hold aaO hg hfr;obtain⟨f1,f2⟩:=hR.ag3 hL (by rw [hE]) hob c3 (lT d3) hxc hold aaO hg hfr (lS hpq) (sJ _);have Tc:ei.toE.row=some (E2,T.sz E2,l.length):=by rw [hE]
  have hpe:ei.toE.j_ (· ==id)=ei.toE:=by rw [hE];rfl
  have hD:=f1.U_ (e:=⟨id,some (E2,T.sz E2,l.length+m'.length),ei.toE.cs++eq.toE.cs.map wl,true⟩) (id:=id) (by
   refine mem_map.2 ⟨ei.toE,mem_map.2 ⟨ei.toE,hmi,hpe⟩,?_⟩;rw [D8 (by rw [hE]),hE]) rfl g5
  have hDq:=f1.U_ (e:=eq.toE) (id:=q) (by
   refine mem_map.2 ⟨eq.toE,mem_map.2 ⟨eq.toE,hmq,by rw [hQ];rfl⟩,?_⟩;exact D7 (by rw [hQ];exact hne.symm)) (by rw [hQ]) g6
  have hlx:xs.length=l.length*T.sz E2:=hold.1;have hcl:ei.toE.cs.length=xs.length:=c3.length;have hnl:(xs++us).length =(l.length+m'.length)*T.sz E2:=aaO.1;obtain⟨g,cap,cur,r1,_,r2,r3,r4,r5,r6⟩: ∃ g cap cur,v'= .slice (some ⟨g,0,none⟩) (l.length+m'.length) cap/\0<=g/\w'.heap[g]? =some (.cells cur E2 (0,0))/\l.length+m'.length<=cap/\cap<=maxLen/\cur.size=cap*T.sz E2/\cur.toList.take ((l.length+m'.length)*T.sz E2)=xs++us:=by
   rcases aaO.2 with ⟨_,h0⟩ | h1
   ·omega
   ·exact h1
  have aco: ∀ k v,us[k]? =some v->w'.cell? ⟨g,ei.toE.cs.length+k,none⟩=some v:=by intro k v hk;have hrg:=BA r2 (us:=xs++us) (rest:=cur.toList.drop ((l.length+m'.length)*T.sz E2)) (by rw [<-r6,List.take_append_drop]);have hkl:=(List.getElem?_eq_some_iff.1 hk).1;have:=hrg (ei.toE.cs.length+k) v (by rw [hcl,List.getElem?_append_right (by omega),Nat.add_sub_cancel_left];exact hk);grind
  obtain⟨G',q1,q2⟩:=f1.aq8 hD hDq hne (b:=g) (off:=ei.toE.cs.length) (by simp [B0,r1,Value.ownBlock]) (by simp) (by simp) (fun k E2 n len cs v hk ho=>aco k v (av5 k E2 n len cs v hk (by
   have:BL k q ≠ id:=(CB aDt k).symm;simpa [B0,this] using ho)))
  have ea:c.args= #[u,x]:=by have:=congrArg List.toArray acY;simpa using this
  have et:c.argTypes= #[t,t]:=by have:=congrArg List.toArray apY;simpa using this
  have amO:(execOp a.eval o).run P w= .ok (.value v') w':=by simp [execOp,hop,resolve,ae5,ea,et,invoke,builtin,J_]
  refine AO amO ⟨_,G',hK,?_⟩;rw [ahU];have arP:=R.put (d:=some d) q1 (show Ad w' G' (V.c (C.n_ id)) v' by simp only [Ad,Af];exact⟨by rw [q2];simp [B0],f2⟩);refine arP.less ?_;rw [Ag.r_];have ajz: ∀ v:V,Bv (lR q id) (Bv (· ==id) v)=Bv (QK q id) v\/Bv (QK q id) v= .undef :=by
   intro v;by_cases hh:v.q_ (QK q id)=true
   ·exact .inr (by unfold Bv;rw [if_pos hh])
   ·have hh:v.q_ (QK q id)=false:=by simpa using hh
    left;rw [iA]at hh ⊢;rw [N6 (q:=(· ==id)) (fun i hi=>by simp only [beq_iff_eq]at hi;simp [hi]) hh,N6 (q:=lR q id) (fun i hi=>by simp [hi]) hh];unfold Bv;rw [if_neg (by simp [hh])]
  have hls: ∀ l:List V,I3 ((l.map (Bv (· ==id))).map (Bv (lR q id))) (l.map (Bv (QK q id))):=fun l=>by
   rw [map_map];exact I3.map fun v _=>by
    rcases ajz v with e | e
    ·exact .inr e.symm
    ·exact .inl e
  have htr: ∀ {a b c:List V},I3 a b->I3 b c->I3 a c:=by
   intro a b c h1 h2;obtain⟨l1,g1⟩:=h1.get;obtain⟨l2,g2⟩:=h2.get;exact I3.of (l2.trans l1) fun i=>by
    rcases g2 i with e | e
    ·exact .inl e
    ·rw [e];exact g1 i
  refine CH.put (Ku ?_ ?_ ?_ ?_ ?_) _ _
  ·have:(Bm [(id,DX.deep E2 (r.length:Nat) r none)] (st.Ti (QK q id))).toSt.tm =(st.Ti (QK q id)).toSt.tm :=by simp only [Ag.toSt,s1,s4]
   rw [this];exact htr (hls _) k1
  ·have:(Bm [(id,DX.deep E2 (r.length:Nat) r none)] (st.Ti (QK q id))).toSt.gh =(st.Ti (QK q id)).toSt.gh :=by simp only [Ag.toSt,s2]
   rw [this];exact htr (hls _) k2
  ·intro y hy;rw [s5]at hy;simp only [map_cons,map_nil,List.singleton_append,mem_cons]at hy;simp only [St.j_,mem_map,mem_filter];rcases hy with rfl | hy
   ·refine⟨⟨id,some (E2,T.sz E2,l.length+m'.length),ei.toE.cs++eq.toE.cs.map wl,true⟩,⟨⟨id,some (E2,T.sz E2,l.length+m'.length),ei.toE.cs++eq.toE.cs.map wl,true⟩,⟨⟨ei.toE,⟨ei.toE,hmi,hpe⟩,by rw [D8 (by rw [hE]),hE]⟩,by simpa using hne⟩,rfl⟩,?_⟩;refine(D8 rfl).trans ?_;show (⟨id,_,(ei.toE.cs++eq.toE.cs.map wl).take ei.toE.cs.length++eq.toE.cs,true⟩:AB)=⟨id,some (E2,T.sz E2,r.length),AH T E2 (r.length:Nat) 0 r,true⟩;rw [List.take_left',hrx,hE,hQ,length_append]
    ·congr 1;simp only;rw [HX (by omega),HX (by omega),HX (by simp),List.flatMap_append]
    ·rfl
   ·rw [k3]at hy;obtain⟨e3,h1,rfl⟩:=mem_map.1 hy;obtain⟨h1,h2⟩:=mem_filter.1 h1;rw [iA]at h2 ⊢;simp only [not_eq_true',or_eq_false_iff,beq_eq_false_iff_ne,lR]at h2;obtain⟨h2,h3,h4⟩:=h2;refine⟨(e3.j_ (· ==id)).j_ (lR q id),⟨e3.j_ (· ==id),⟨⟨e3.j_ (· ==id),⟨e3,h1,rfl⟩,D7 (by rw [AB.K_];exact h2)⟩,by rw [AB.K_];simpa using h3⟩,rfl⟩,?_⟩;rw [D7 (by rw [AB.K_,AB.K_];exact h2),AB.aro]
  ·exact Fq n2.ok
  ·rw [show (Bm [(id,DX.deep E2 (r.length:Nat) r none)] (st.Ti (QK q id))).toSt.pre =st.pre from by show (Bm _ _).pre =_;rw [s3];exact k4];rfl
 rw [show ei.toE.id=id by rw [hE]]at c4;rcases c4 with ⟨c4,c5⟩ | ⟨p,hvp,h0,hxs,c5⟩
 ·have hxc: ∀ b j u',G.y_ id=some b->xs[j]? =some u'->w.cell? ⟨b,j,none⟩=some u':=by intro b j u' hb' hj;have:=c4.cells (g:=b) (by grind) j u' hj;grind [Addr.add_mid]
  obtain⟨v',w',J_,aaK,hg,hfr⟩:=Ii (P:=P) (w:=w) t o.type E2 i z (T.sz E2) by' hty hi hz hsz hby hzs g4 v l.length xs c4 ⟨bq,0,none⟩ m'.length ar2 us hul aeu adj hrb.2 hrb.1;exact main v v' w' (by rw [c1,d1,p1];exact J_) c5 hxc c4 aaK hg hfr
 ·have ayH:xs=[]:=hxs;obtain⟨v',w',J_,aaK,hg,hfr⟩:=Ij (P:=P) (w:=w) t o.type E2 i z (T.sz E2) by' hty hi hz hsz hby hzs g4 p ⟨bq,0,none⟩ m'.length ar2 us hul aeu (by omega) (by have:=hrb.2;omega) (by have:=hrb.1;rw [h0,zero_add]at this;exact this);exact main (.slice none 0 0) v' w' (by rw [c1,d1,p1,hvp];exact J_) c5.symm (by rw [c5];intro b j u' hb';cases hb') ⟨by rw [ayH,h0];simp, .inl ⟨rfl,h0⟩⟩ (by rw [ayH,h0,zero_add,nil_append];exact aaK) (by exact hg) (.inr hfr)
theorem aeO {P:Program} (w:World) (dT sT ty elem:TypeId) (d a:Option Addr) (azK aE8 axK aBj:Nat) (hu:P.underlying dT=some (.slice elem)) (hs:(P.info? elem).map (·.size)=some 1) (hn:Nat.min axK azK=0):
 (Builtin.copy_ #[dT,sT] ty #[.slice d azK aE8, .slice a axK aBj]).run P w= .ok (goInt 0) w:=by
 cases hq:P.info? elem with
 | none=>grind
 | some i=>
   have hl: ∀ (x:Addr),(loadCells x 0).run P w= .ok #[] w:=fun x=>by simpa using run_loadCells_list (P:=P) w x [] (by simp)
   cases d<;>cases a<;>simp [Builtin.copy_,run_underlying hu,Builtin.lenOf,Builtin.firstCells,sizeOf,typeInfo,hq,hn,storeCells,hl]
def dcp (P:Program) (o:Oper) (st:Ag T):M (Ag T):=match o.op,o.dst with
 | .call c,some d=>match c.callee,c.args.toList,c.argTypes.toList with
   | .builtin .copy,[x,y],[t,_]=>match st.arg [] x,st.arg [] y,Dj P t with
     | some (.c (.c (.n_ id))),some (.c y'),some (e,n)=>match DA st id with
       | some ⟨E,l⟩=>match HN false (.u_ E) y' with
         | some m=>mIf (Nat.beq e E&&(Nat.beq n (T.sz E)&&Nat.beq n 1)) (.opt (A1 (m.length=l.length)) fun _=>
          .ret ((st.abT id (.row E m)).put (some d) (.c (.k (.int .i64) ((List.length l:Nat):Int)))))
         | none=> .no
       | none=> .no
     | _,_,_=> .no
   | _,_,_=> .no
 | _,_=> .no
theorem Aex {H:Az T} {P:Program} {I:World->Prop} {st:Ag T} (hw:AK H st) {o:Oper}:Yl (dcp P o st) (fun d_=>(∃ H',Nx H st H' d_)/\d_.pre=st.pre/\ ∀ K:St->Prop,K d_.toSt->E4 P I o st.toSt K):=by
 unfold dcp;split
 case h_2=>exact Yl.no
 rename_i c d hop ahU;split
 case h_2=>exact Yl.no
 rename_i x y t t2 ae5 acY apY;split
 case h_2=>exact Yl.no
 rename_i id y' e n hx hy ht;split
 case h_2=>exact Yl.no
 rename_i E l hr;split
 case h_2=>exact Yl.no
 rename_i m hm;refine Yl.mIf fun hg=>Yl.opt fun u hn=>Yl.ret ?_;simp only [and_eq_true,beq_eq]at hg;obtain⟨g1,g2,g3⟩:=hg;subst g1;have aDc:T.sz e=1:=by omega
 have hlen:=Ck hn;obtain⟨a1,a2,a3⟩:=Hd hw hx;obtain⟨b1,b2,b3⟩:=Hd hw hy;obtain⟨hu,inf,hi1,hsz⟩:=DF ht;obtain⟨H1,n1⟩:=Ag.abP hw id (x:= .row e m) trivial;obtain⟨H2,n2⟩:=Ag.Th n1 (some d) (v:= .c (.k (.int .i64) ((l.length:Nat):Int))) (by simp only [DV.ok,DC.ok]);refine⟨⟨H2,n2⟩,by rw [AW];rfl,fun K hK F a w G Q hI hR=>?_⟩;have hxv:=hR.arg rfl a2;rw [a3]at hxv;simp only [DV.toV,DC.toC,Ad,Af]at hxv;have hyv:=hR.arg rfl b2;have hyc:y'.toC=Bk T.enc (.u_ e) m:=(Cv hm).2 rfl;rw [b3]at hyv;simp only [DV.toV,hyc,Bk,Ad,Af]at hyv;obtain⟨hpm,ad,ar3,hye,_,_,_,Tc⟩:=hyv;obtain⟨v,v1,v2⟩:=hR.adr hr;rw [hxv.1]at v1;injection v1 with v1;have ea:c.args= #[x,y]:=by grind
 have et:c.argTypes= #[t,t2]:=by grind
 have hs1:(P.info? e).map (·.size)=some 1:=by grind
 have fin: ∀ w',(Builtin.copy_ #[t,t2] o.type #[a.eval x,a.eval y]).run P w= .ok (goInt l.length) w'->R F (st.abT id (.row e m)).toSt a w' G->o.wp P a w (ot F K) Q:=by
  intro w' J_ hR';have amO:(execOp a.eval o).run P w= .ok (.value (goInt l.length)) w':=by simp_all [execOp,resolve,invoke,builtin]
  refine AO amO ⟨_,G,hK,?_⟩;rw [ahU,Ag.r_];exact hR'.put (by simp only [DV.toV,DC.toC,Bk,Ad,Af,goInt])
 have aHa:l.length=0->R F (st.abT id (.row e m)).toSt a w G:=by
  intro h0;have hml:m=l:=by grind
  obtain⟨h1,_,e0,e1,e2,e3⟩:=BK hr;refine hR.less ⟨rfl,fun i=> .inr rfl,fun z hz=>?_,fun _=>Fq n1.ok,⟨rfl,fun i=> .inr rfl⟩,rfl⟩;obtain⟨e5,h5,rfl⟩:=mem_map.1 hz;rcases acE hw.nd h5 with ⟨h6,_⟩ | h6
  ·exact mem_map.2 ⟨e5,h6,rfl⟩
  ·subst h6;refine mem_map.2 ⟨e0,e1,?_⟩;grind [DE.toE_row]
 rcases v2 with ⟨p,rfl,h0⟩ | ⟨b,cap,cur,rfl,v3,v4,v5,v6,v7,v8⟩
 ·grind [aeO]
 ·by_cases h0:l.length=0
  ·grind [aeO]
  ·rcases Tc with Tc | ⟨b2,off,rfl,hwr,hb2,Tc⟩
   ·omega
   ·obtain⟨us,u1,u2⟩:=Tc.list;have hul:us.length=l.length:=by have h7:(List.flatMap (T.enc e) m).length =List.length m*T.sz e:=YS (fun y=>AV e y) m;rw [<-u1.length,h7,aDc,Nat.mul_one,hlen]
    have hml:(m.flatMap (T.enc e)).length =l.length:=by rw [u1.length,hul]
    obtain⟨adS,T',s1,s2,s3⟩:=R.ahL (m:=m) hR hw hr v3 (off:=0) u1 hpm hlen (by
     rw [List.take_zero,nil_append,zero_add,List.drop_eq_nil_of_le (by
      have h7:(List.flatMap (T.enc e) l).length =List.length l*T.sz e:=YS (fun y=>AV e y) l;grind),append_nil]) (by grind)
    have J_:=run_copy_row (P:=P) w t t2 o.type e b 0 l.length cap ⟨b2,off,none⟩ (List.length m) ar3 adS T' us hu hs1 s1 (by grind) (fun j v hv=>by have:=u2 j v hv;grind [Addr.add_mid]) (by omega) (Ai.one u1)
    grind
end Go.PL
namespace Go.PL
open Go Go.RowKit
variable {T:Bl}
def jn {X R:Type} (J:X->Option R) (body:(X->Option R)->Option R):Option R:=body J
inductive Sp where
 | co
 | sub (md:Bool)
 | clr
 | apb
 | dlx
 | dsa
 | dse
 | mk
 | ss
 | ins
 | bf
 | sb
 | mld
 | mix
 | mst
 | lz
 | by_
 | ga
 | gl
 | ad
 | cp
 | au
inductive Gh where
 | tr (d:Nat)
 | dp (d:Nat)
 | fd (id:Ah)
 | ug (ks:List Nat)
mutual
inductive Hn where
 | n
 | s (a b:Hn)
 | j (sh:HV) (a b:Hn)
 | i (a b:Hn)
 | l (sh:HV) (xs:List (Nat×HV)) (b:Hn)
 | r (fz:List Ah) (ow:List (Ah×Nat×Ah×Nat)) (il:Hl)
 | x
inductive Hl where
 | n
 | c (k:Nat) (h:Hn) (r:Hl)
 | j (k:Nat) (sh:HV) (h:Hn) (r:Hl)
 | q (k:Nat) (sp:Sp) (r:Hl)
 | u (k:Nat) (ks:List Nat) (ke:List Ah) (kd:Kd) (h:Hn) (r:Hl)
 | g (k:Nat) (gh:Gh) (r:Hl)
 | t (r:Hl)
end
def Hn.a:Hn->Hn
 | .s a _=>a
 | .i a _=>a
 | _=> .n
def Hn.b:Hn->Hn
 | .s _ b=>b
 | .i _ b=>b
 | _=> .n
inductive HA where
 | n
 | c (h:Hn)
 | j (sh:HV) (h:Hn)
 | q (sp:Sp)
 | u (ks:List Nat) (ke:List Ah) (kd:Kd) (h:Hn)
def LO:Hl->Nat->HA
 | .n,_=> .n
 | .c k h r,i=>match Nat.beq k i with
   | true=> .c h
   | false=>LO r i
 | .j k sh h r,i=>match Nat.beq k i with
   | true=> .j sh h
   | false=>LO r i
 | .q k sp r,i=>match Nat.beq k i with
   | true=> .q sp
   | false=>LO r i
 | .u k ks ke kd h r,i=>match Nat.beq k i with
   | true=> .u ks ke kd h
   | false=>LO r i
 | .g _ _ r,i=>LO r i
 | .t r,i=>LO r i
def AiV:Hl->Bool
 | .t _=>true
 | _=>false
def dgh:Gh->Ag T->M (Ag T)
 | .tr d,st=>dtr d st
 | .dp d,st=>ddp d st
 | .fd id,st=>match st.awk id with
   | some s=> .ret s
   | none=> .no
 | .ug ks,st=> .ret (dug ks st)
def Uc:Hl->Nat->Ag T->M (Ag T)
 | .n,_,st=> .ret st
 | .c _ _ r,i,st=>Uc r i st
 | .j _ _ _ r,i,st=>Uc r i st
 | .q _ _ r,i,st=>Uc r i st
 | .u _ _ _ _ _ r,i,st=>Uc r i st
 | .t r,i,st=>Uc r i st
 | .g k g r,i,st=>match Nat.beq k i with
   | true=> .Z_ (dgh g st) (Uc r i)
   | false=>Uc r i st
theorem Aey {H:Az T} {st:Ag T} (hw:AK H st) (g:Gh):Yl (dgh g st) (fun d_=>(∃ H',Nx H st H' d_)/\d_.pre=st.pre/\Wk st.toSt d_.toSt):=by cases g<;>grind [Aeg,xH,Yl.ret,Ael,dgh,uV,Yl.no]
theorem Gp (i:Nat): ∀ (il:Hl) {H:Az T} {st:Ag T},AK H st->Yl (Uc il i st) (fun d_=>(∃ H',Nx H st H' d_)/\d_.pre=st.pre/\Wk st.toSt d_.toSt)
 | .n,H,st,hw=>Yl.ret ⟨⟨H,Nx.refl hw⟩,rfl,Wk.less (CH.refl _)⟩
 | .c _ _ r,H,st,hw=>Gp i r hw
 | .j _ _ _ r,H,st,hw=>Gp i r hw
 | .q _ _ r,H,st,hw=>Gp i r hw
 | .u _ _ _ _ _ r,H,st,hw=>Gp i r hw
 | .t r,H,st,hw=>Gp i r hw
 | .g k g r,H,st,hw=>by
   unfold Uc;split
   ·refine Yl.Z_ (Aey hw g) fun s hs=>?_;obtain⟨⟨H1,n1⟩,p1,w1⟩:=hs;refine(Gp i r n1.ok).mono fun s' hs'=>?_;obtain⟨⟨H2,n2⟩,p2,w2⟩:=hs';exact⟨⟨H2,n1.trans n2⟩,p2.trans p1,w1.trans w2⟩
   ·exact Gp i r hw
def pS (st:Ag T) (xs:List Operand):List Ah:=match Iu st [] xs with
 | some vs=>RB vs
 | none=>[]
theorem MB: ∀ {l:List Ah} {st:Ag T} {H:Az T},AK H st->(FF l st).pre =st.pre
 | [],_,_,_=>rfl
 | i::r,st,H,h=>by
   unfold FF;split
   ·rename_i s hs;obtain⟨⟨H1,a⟩,_,_,b⟩:=Ag.ag2 h hs;rw [MB a.ok,b]
   ·exact MB h
theorem E4.wk {P:Program} {I:World->Prop} {o:Oper} {A B:St} {K:St->Prop} (hk:Wk A B) (h:E4 P I o B K):E4 P I o A K:=fun F a w G Q hI hR=>by obtain⟨G',q⟩:=hk F a w G hR;exact h F a w G' Q hI q
def pT (st:Ag T):List (Nat×Operand)->List Ah
 | []=>[]
 | p::r=>pS st [p.2]++pT st r
def dbf (P:Program) (o:Oper) (st:Ag T):M (Ag T):=match o.op with
 | .buildSlice _ _ ps=>uy P (FF (pT st ps.toList) st) o
 | _=> .no
theorem Aez {H:Az T} {P:Program} {I:World->Prop} {st:Ag T} (hw:AK H st) {o:Oper}:Yl (dbf P o st) (fun d_=>(∃ H',Nx H st H' d_)/\d_.pre=st.pre/\ ∀ K:St->Prop,K d_.toSt->E4 P I o st.toSt K):=by
 unfold dbf;split
 ·rename_i ps hop;obtain⟨⟨H1,n1⟩,w1⟩:=F2 (l:=pT st ps.toList) (Nx.refl hw);refine(W3 n1.ok o).mono fun d_ h=>?_;obtain⟨⟨H2,n2⟩,h2,h3,h4⟩:=h;refine⟨⟨H2,n1.trans n2⟩,h4.trans (MB hw),fun K hK=>E4.wk w1 fun F a w G Q hI hR=>?_⟩;obtain⟨nx,w',G',q1,q2⟩:=(Rc hR h2).out;unfold Oper.wp Oper.upon;rw [q1];rcases q2 with ⟨v,rfl,q3⟩ | ⟨rfl,q3⟩
  ·exact⟨_,G',hK,q3.less h3⟩
  ·exact⟨_,G',hK,q3.less h3⟩
 ·exact Yl.no
def dsp {P:Program} {I:World->Prop} (Γ:List (CE T P I)) (o:Oper) (st:Ag T):Sp->M (Ag T)
 | .co =>match Cb o.op,o.dst with
   | .call f xs,some d=>pL Γ (FF (pS st xs) st) f xs d
   | _,_=> .no
 | .au => .no
 | .sub md=>Aa4 P o md st
 | .clr =>Aee P o st
 | .apb =>Aef P o st
 | .dlx =>dlx P o st
 | .dsa =>dsa P o st
 | .dse =>dse P o st
 | .mk =>dmk P o st
 | .ss =>CO P o st
 | .ins =>Aem Γ o st
 | .bf =>dbf P o st
 | .sb =>dsb P o st
 | .mld =>Aen P o st
 | .mix =>Aeo P o st
 | .mst =>Aep P o st
 | .lz => .no
 | .by_ =>dby P o st
 | .ga =>dga P o st
 | .gl =>dgl Γ o st
 | .ad =>dad P o st
 | .cp =>dcp P o st
theorem AeA {H:Az T} {P:Program} {I:World->Prop} {Γ:List (CE T P I)} {st:Ag T} (hw:AK H st) (o:Oper) (sp:Sp):Yl (dsp Γ o st sp) (fun d_=>(∃ H',Nx H st H' d_)/\d_.pre=st.pre/\ ∀ K:St->Prop,K d_.toSt->E4 P I o st.toSt K):=by
 cases sp with
 | co=>
   unfold dsp;simp only;split
   ·rename_i f xs d hk hd;obtain⟨⟨H1,n1⟩,w1⟩:=F2 (l:=pS st xs) (Nx.refl hw);refine(uS n1.ok hk hd).mono fun s ⟨⟨H2,n2⟩,p2,k2⟩=>⟨⟨H2,n1.trans n2⟩,p2.trans (MB hw),fun K hK=>E4.wk w1 (k2 K hK)⟩
   ·exact Yl.no
 | au=>exact Yl.no
 | sub md=>exact(sE hw).mono fun _ ⟨a,b,c⟩=>⟨a,b,fun K hK=>c.esc hK⟩
 | clr=>exact Aa5 hw
 | apb=>exact Aa6 hw
 | dlx=>exact(xG hw).mono fun _ ⟨a,b,c⟩=>⟨a,b,fun K hK=>c.esc hK⟩
 | dsa=>exact Aec hw
 | dse=>exact Aed hw
 | mk=>exact Aej hw
 | ss=>exact Aek hw
 | ins=>exact Abb hw
 | bf=>exact Aez hw
 | sb=>exact Aet hw
 | mld=>exact Abc hw
 | mix=>exact Abd hw
 | mst=>exact Abe hw
 | lz=>exact Yl.no
 | by_=>exact Aeq hw
 | ga=>exact Aer hw
 | gl=>exact Aes hw
 | ad=>exact Aew hw
 | cp=>exact Aex hw
def auL (P:Program) (st:Ag T) (o:Oper):Bool:=match o.op with
 | .load t x=>match st.arg [] x with
   | some (.c (.rp id _ _ _))=>E9 id&&(Dj P t).isSome
   | _=>false
 | _=>false
def auS (st:Ag T) (o:Oper):Option Sp:=match o.op with
 | .store _ x y=>match st.arg [] x,st.arg [] y with
   | some (.c (.rp id _ _ _)),some v=>match E9 id,v with
     | true, .c (.c (.n_ _))=>some .dsa
     | true, .agg _=>some .dse
     | true,_=>some .ss
     | false,_=>none
   | _,_=>none
 | _=>none
def Abi {P:Program} {I:World->Prop} (Γ:List (CE T P I)) (ops:Array Oper) (o:Oper) (st:Ag T) (sp:Sp):M (Ag T):=match o.guard,sp with
 | none, .au =>match auL P st o,auS st o with
   | true,_=>dsp Γ o st .dlx
   | false,some sp=>dsp Γ o st sp
   | false,none=>dop Γ ops o st
 | none,sp=>dsp Γ o st sp
 | some _,_=> .no
theorem sK {H:Az T} {P:Program} {I:World->Prop} {Γ:List (CE T P I)} {ops:Array Oper} {st:Ag T} (hw:AK H st) (o:Oper) (sp:Sp):Yl (Abi Γ ops o st sp) (xv H P I ops st o):=by have A: ∀ sp,o.guard=none->Yl (dsp Γ o st sp) (xv H P I ops st o):=fun sp hg=>(AeA hw o sp).mono fun s ⟨a,b,c⟩=>⟨a,b,fun K hK=>by unfold dG;rw [hg];exact .inl (c K hK)⟩;unfold Abi;grind [gZ,Yl.no]
def Ud (P:Program) (I:World->Prop) (ops:Array Oper):List Oper->St->(St->Prop)->Prop
 | [],st,K=> ∃ s,Wk st s/\K s
 | o::rest,st,K=> ∃ s,Wk st s/\dG P I ops o s (fun d_=>Ud P I ops rest d_ K)
theorem Y3 {P:Program} {F:Fr} {ops:Array Oper} {Q:Exit->Act->World->Prop} {K:St->Prop} (hQ: ∀ d_ a' w' G',K d_->R F d_ a' w' G'->Q .normal a' w'):
 ∀ (l:List Oper) (st:St) (a:Act) (w:World) (G:AJ),R F st a w G->Ud P F.I ops l st K->wpList P ops Q l a w
 | [],st,a,w,G,h,⟨s,hwk,hs⟩=>by obtain⟨G',h'⟩:=hwk _ _ _ _ h;exact hQ s a w G' hs h'
 | o::rest,st,a,w,G,h,⟨s,hwk,hs⟩=>by
   obtain⟨G',h'⟩:=hwk _ _ _ _ h;refine wpList_step fun K' hK'=>?_;have alq: ∀ a' w',ot F (fun d_=>Ud P F.I ops rest d_ K) a' w'->K' a' w':=fun a' w' ⟨d_,G',q,hR⟩=>
    hK' a' w' (Y3 hQ rest d_ a' w' G' hR q)
   have:=dX (Q:=Q) h' hs;split at this
   ·rename_i hw;rw [if_pos hw];grind [Oper.wp_mono]
   grind
theorem Aq.asY {P:Program} {F:Fr} {st:St} {id:Nat} {ops:Array Oper} {Q:Exit->St->Prop} (h:Ud P F.I ops ops.toList st (Q .normal)):Aq P F (.region id ops false) st Q:=
 fun _ _ G hR=>wp_region_list (Y3 (K:=Q .normal) (fun d_ _ _ G' q hR'=>⟨d_,G',q,hR'⟩) _ _ _ _ G hR h)
def uZ (T:Bl):=(R:Type)->Code->Hn->Ag T->(Exit->Ag T->Option R)->Option R
def lV (P:Program) (I:World->Prop) (rec:uZ T):Prop:= ∀ (R:Type) (c:Code) (h:Hn) (st:Ag T) (H:Az T) (K:Exit->Ag T->Option R) (r:R),AK H st->rec R c h st K=some r->
 ∀ (F:Fr) (Q:Exit->St->Prop),F.I=I->(∀ H' e d_,Nx H st H' d_->K e d_=some r->Q e d_.toSt)->Aq P F c st.toSt Q
def W8:DV T->Option (FuncId×Bool×List (DC T))
 | .c (.c (.fn f))=>some (f,false,[])
 | .c (.clo b f cs)=>some (f,b,cs)
 | _=>none
def O3 (b:Bool) (akU vs:List (DV T)):List (DV T):=match b with
 | true=>akU++vs
 | false=>vs++akU
def u0:Option Nat->Nat
 | some d=>d
 | none=>0
def xQ (P:Program) (fn:Func) (o:Oper) (st:Ag T) (R:Type) (K:Ag T->Option R) (e:Exit) (stc:Ag T):Option R:=match e with
 | .normal =>xC P stc fn.results.toList R fun v=>match stc.back st o.dst v with
   | some s=>K s
   | none=>none
 | .ret =>xC P stc fn.results.toList R fun v=>match stc.back st o.dst v with
   | some s=>K s
   | none=>none
 | _=>none
def pU (P:Program) (rec:uZ T) (o:Oper) (h:Hn) (st:Ag T) (R:Type) (K:Ag T->Option R):Option R:=
 match o.op,o.guard with
 | .call c,none=>match c.callee with
   | .value x=>match W8 (st.ev x),Iu st [] c.args.toList with
     | some (f,b,cs),some vs=>match P.funcs[f]? with
       | some fn=>match fn.body with
         | some body=>match ent P f&&Nat.ble (O3 b (cs.map DV.c) vs).length fn.ntmps with
           | true=>rec R body h (st.enter (u0 o.dst) (O3 b (cs.map DV.c) vs) fn.ntmps) (xQ P fn o st R K)
           | false=>none
         | none=>none
       | none=>none
     | _,_=>none
   | _=>none
 | _,_=>none
def kpt (ks:List Nat) (ke:List Ah):HV:=⟨ks,[],ke,[]⟩
def dgd (ops:Array Oper) (o:Oper) (st:Ag T):Option (List GL×Nat):=match o.guard,o.dst with
 | some (j,want),some d=>match YE st ops j want with
   | some key=>some (key,d)
   | none=>none
 | _,_=>none
def V7 (key:List GL):List Operand->Ag T->Ag T
 | [],st=>st
 | .tmp t::r,st=>match st.get t with
   | .g k v=>match Qn k key with
     | true=>V7 key r (st.put (some t) v)
     | false=>V7 key r st
   | _=>V7 key r st
 | _::r,st=>V7 key r st
def xR (o:Oper):List Operand:=match o.op with
 | .call c=>c.args.toList
 | _=>[]
theorem MC {key:List GL} (hc:Bb key=true): ∀ {l:List Operand} {H:Az T} {st:Ag T},AK H st->Fh H st.nx key->(∃ H',Nx H st H' (V7 key l st))/\(V7 key l st).pre =st.pre/\ ∀ F a w G,R F st.toSt a w G->R F (V7 key l st).toSt a w G
 | [],H,st,hw,_=>⟨⟨H,Nx.refl hw⟩,rfl,fun _ _ _ _ h=>h⟩
 | .tmp t::r,H,st,hw,hk=>by
   unfold V7;split
   ·rename_i k v hg;split
    ·rename_i hs;have hok:=Ag.ahV hw t;rw [hg]at hok;simp only [DV.ok]at hok;have hck:=NP hs hok.1 hk hc;obtain⟨H1,n1⟩:=Ag.aaL hw (some t) (hok.2 hck);have hk1:Fh H1 (st.put (some t) v).nx key:=fun l hl=>GL.ads n1.ext n1.le (hk l hl);obtain⟨⟨H2,n2⟩,p2,h2⟩:=MC (l:=r) hc n1.ok hk1;refine⟨⟨H2,n1.trans n2⟩,p2.trans (AW _ _ _),fun F a w G hR=>h2 F a w G ?_⟩;rw [Ag.r_];refine hR.agm ?_;have hsl:Ad w G (st.toSt.get t) (a.tmps.getD t Go.undef):=hR.M_ t;rw [st.abF t,hg]at hsl;simp_all [DV.toV,Ad]
    ·exact MC hc hw hk
   ·exact MC hc hw hk
 | .const _::r,H,st,hw,hk=>by unfold V7;exact MC hc hw hk
 | .func _::r,H,st,hw,hk=>by unfold V7;exact MC hc hw hk
 | .global _::r,H,st,hw,hk=>by unfold V7;exact MC hc hw hk
def Y4 {P:Program} {I:World->Prop} (Γ:List (CE T P I)) (rec:uZ T) (ops:Array Oper) (il:Hl):List Oper->Nat->Ag T->(R:Type)->(Ag T->Option R)->Option R
 | [],k,st,R,K=>Uc il k st R K
 | o::rest,k,st,R,K=>Uc il k st R fun st=>match LO il k with
   | .n =>dop Γ ops o st R fun d_=>Y4 Γ rec ops il rest (k+1) d_ R K
   | .q sp=>Abi Γ ops o st sp R fun d_=>Y4 Γ rec ops il rest (k+1) d_ R K
   | .c h=>pU P rec o h st R fun d_=>Y4 Γ rec ops il rest (k+1) d_ R K
   | .j sh h=>jn (fun v:RT T sh.ts=>match sh.inst st (Cw sh.ts v)with
    | some s=>Y4 Γ rec ops il rest (k+1) s R K
    | none=>none) (fun j=>pU P rec o h st R fun b=>match sh.gen st b with
    | some v=>j v
    | none=>none)
   | .u ks ke kd h=>match OX kd,dgd ops o st with
    | true,some (key,d)=>jn (fun x:OW T.den kd=>Y4 Γ rec ops il rest (k+1) (((kpt ks ke).base st).put (some d) (.g key (.c (.k kd x)))) R K)
     (fun j=>if Bb key=true then pU P rec {o with guard:=none} h (V7 key (xR o) st) R fun b=>match (kpt ks ke).gen st b,gV kd (b.get d)with
      | some _,some x=>j x
      | _,_=>none
     else j (Ac0 T kd))
    | _,_=>none
section
variable {H:Az T} {P:Program} {I:World->Prop} {Γ:List (CE T P I)} {rec:uZ T} {st:Ag T} {ops:Array Oper}
theorem VD {n:Nat} {a b:List (DV T)} (h:CL H n a) (k:CL H n b):CL H n (a++b):=(by grind [NN])
theorem VE (a b:List (DV T)):Be (a++b)=Be a++Be b:=by simp [NM]
theorem eZ (cs:List (DC T)):Be (cs.map DV.c)=(Ax cs).map V.c:=by simp_all [NM,Cz,DV.toV]
theorem RI (aci:lV P I rec) (hw:AK H st) {o:Oper} {h:Hn} {R:Type} {K:Ag T->Option R} {r:R} (hr:pU P rec o h st R K=some r)
 {PK:St->Prop} (hK: ∀ H' d_,Nx H st H' d_->d_.pre=st.pre->K d_=some r->PK d_.toSt):o.guard=none/\E4 P I o st.toSt PK:=by
 unfold pU at hr;split at hr
 ·rename_i c hop hgd;refine⟨hgd,?_⟩;split at hr
  ·rename_i x ae5;split at hr
   ·rename_i f b cs vs hf hvs;split at hr
    ·rename_i fn hfn;split at hr
     ·rename_i body auy;split at hr
      ·rename_i hm;simp only [and_eq_true,ble_eq]at hm;obtain⟨abR,hlen⟩:=hm;obtain⟨a1,a2,a3⟩:=Dc (key:=[]) hw (LK _ _) rfl hvs;change (st.toSt.args true c.args.toList).1 at a2;change (st.toSt.args true c.args.toList).2=Be vs at a3;have hev:=Ag.apq hw x;have azh:=st.acp x;have hcs:B3 cs:=by
        unfold W8 at hf;split at hf
        ·simp only [injEq,Prod.mk.injEq]at hf;obtain⟨rfl,rfl,rfl⟩:=hf;simp [B3]
        ·rename_i b' f' cs' he;simp only [injEq,Prod.mk.injEq]at hf;obtain⟨rfl,rfl,rfl⟩:=hf;grind [DV.ok,DC.ok]
        ·cases hf
       have auw:CL H st.nx (cs.map DV.c):=NN.2 fun v hv=>by obtain⟨d,h1,rfl⟩:=mem_map.1 hv;grind [DV.ok,C6]
       have acY:CL H st.nx (O3 b (cs.map DV.c) vs):=by
        cases b
        ·exact VD a1 auw
        ·exact VD auw a1
       obtain⟨H1,n1⟩:=xB hw (u0 o.dst) fn.ntmps acY;have hst:=pI (st:=st) (k:=u0 o.dst) hlen;have hm:st.toSt.tm.length=st.m:=Bt _ _;have main: ∀ w0 av old gv,Aq P ⟨w0,av,old,I,gv⟩ body (st.toSt.enter (u0 o.dst) (Be (O3 b (cs.map DV.c) vs)) fn.ntmps) (inQ P fn.results.toList st.toSt.tm.length st.toSt.pre o.dst PK):=by
        intro w0 av old gv;rw [<-hst];refine aci _ _ _ _ _ _ _ n1.ok hr ⟨w0,av,old,I,gv⟩ _ rfl fun H' e stc hN hE=>?_;have fin:xC P stc fn.results.toList R (fun v=>match stc.back st o.dst v with | some s=>K s | none=>none)=some r->
         (Ct P stc.toSt fn.results.toList).1/\PK (stc.toSt.back st.toSt.tm.length st.toSt.pre o.dst (Ct P stc.toSt fn.results.toList).2):=by
         intro hE;obtain⟨v,⟨v1,v2,v3⟩,hE⟩:=Aa0 hN.ok fn.results.toList R _ r hE;split at hE
         ·rename_i s hs;obtain⟨⟨H2,b1⟩,b2,b3⟩:=uN (n1.trans hN) v1 hs;refine⟨v2,?_⟩;have:=hK H2 s b1 b3 hE;rw [b2]at this;rw [v3,hm];exact this
         ·cases hE
        cases e<;>simp only [inQ]<;>first
         | exact fin hE
         | grind [xQ]
       cases b with
       | false=>
         have hcv:WY st.toSt x=some (f,Ax cs):=by
          unfold WY;rw [azh];unfold W8 at hf;split at hf
          ·rename_i f' he;simp only [injEq,Prod.mk.injEq]at hf;obtain⟨rfl,_,rfl⟩:=hf;grind [DV.toV,DC.toC,Ax]
          ·rename_i b' f' cs' he;simp only [injEq,Prod.mk.injEq]at hf;obtain⟨rfl,rfl,rfl⟩:=hf;grind [DV.toV,DC.toC]
          ·cases hf
         refine E4.inline (u0 o.dst) hop ae5 rfl (s:=(st.toSt.args true c.args.toList).1) (vs:=Be vs) (by rw [<-a3]) a2 hcv abR hfn auy rfl (rs:=fn.results.toList) (by simp) ?_;grind [O3,VE,eZ]
       | true=>
         have hcv:st.toSt.ev x= .c (.bmv f (Ax cs)):=by
          rw [azh];unfold W8 at hf;split at hf
          ·simp at hf
          ·rename_i b' f' cs' he;simp only [injEq,Prod.mk.injEq]at hf;obtain⟨rfl,rfl,rfl⟩:=hf;grind [DV.toV,DC.toC]
          ·cases hf
         refine E4.atd (u0 o.dst) hop ae5 rfl (s:=(st.toSt.args true c.args.toList).1) (vs:=Be vs) (by rw [<-a3]) a2 hcv abR hfn auy rfl (rs:=fn.results.toList) (by simp) ?_;grind [O3,VE,eZ]
      ·cases hr
     ·cases hr
    ·cases hr
   ·cases hr
  ·cases hr
 ·cases hr
theorem Abj {P:Program} {I:World->Prop} {ops:Array Oper} {PK:St->Prop} {A B:St} (h:Wk A B): ∀ {l:List Oper},Ud P I ops l B PK->Ud P I ops l A PK
 | [],⟨s,h1,h2⟩=>⟨s,h.trans h1,h2⟩
 | _::_,⟨s,h1,h2⟩=>⟨s,h.trans h1,h2⟩
theorem u4 (sh:HV) {H:Az T} {st:Ag T} (hw:AK H st):CH st.toSt (sh.base st).toSt :=by
 refine⟨?_,fun i=>?_,fun e he=>?_,fun _=>?_,⟨rfl,fun i=> .inr rfl⟩,rfl⟩
 ·show (AI _ _).length =(AI _ _).length;rw [Bt,Bt];rfl
 ·show (AI st.m (Hg sh.ks st.tm)).getD i .undef = .undef \/(AI st.m (Hg sh.ks st.tm)).getD i .undef =(AI st.m st.tm).getD i .undef;rw [LD,LD];split
  ·rw [OZ];split
   ·grind
   grind [DV.toV]
  grind
 ·obtain⟨d,hd,rfl⟩:=mem_map.1 he;exact mem_map.2 ⟨d,(Hh sh.ke st.so).1.subset hd,rfl⟩
 ·exact Fq (HV.ag4 sh hw).ok
theorem xS {A B:St} (h:CH A B) (d:Option Nat) (x:V):CH (A.put d x) (B.put d x):=by
 cases d with
 | none=>exact h
 | some d=>
   refine⟨by simp [St.put,h.len],fun i=>?_,h.so,h.nd,h.gh,h.pre⟩;have hl:=h.len;have:=h.tm i;simp only [St.put,List.getD_eq_getElem?_getD,getElem?_set,hl]at this ⊢;grind
theorem xT {H:Az T} {st:Ag T} {ops:Array Oper} {o:Oper} {key:List GL} {d:Nat} (hw:AK H st) (h:dgd ops o st=some (key,d)): ∃ j want,o.guard=some (j,want)/\o.dst=some d/\Iz st.toSt ops j want=some (Bb key)/\Fh H st.nx key:=by
 unfold dgd at h;split at h
 ·rename_i j want d' hg hd;split at h
  ·rename_i aK7 hk;simp only [injEq,Prod.mk.injEq]at h;obtain⟨rfl,rfl⟩:=h;grind [N0]
  ·cases h
 ·cases h
theorem sL (aci:lV P I rec) (il:Hl): ∀ (l:List Oper) (k:Nat) (st:Ag T) (H:Az T),AK H st-> ∀ (R:Type) (K:Ag T->Option R) (r:R),Y4 Γ rec ops il l k st R K=some r->
 ∀ PK:St->Prop,(∀ H' d_,Nx H st H' d_->d_.pre=st.pre->K d_=some r->PK d_.toSt)->Ud P I ops l st.toSt PK
 | [],k,st,H,hw,R,K,r,hr,PK,hK=>by simp only [Y4]at hr;obtain⟨s,⟨⟨H1,n1⟩,p1,w1⟩,hr⟩:=Gp k il hw R _ r hr;exact⟨s.toSt,w1,hK H1 s n1 p1 hr⟩
 | o::rest,k,st0,H,hw,R,K,r,hr,PK,hK=>by
   simp only [Y4]at hr;obtain⟨st,⟨⟨H0,n0⟩,p0,w0⟩,hr⟩:=Gp k il hw R _ r hr;refine⟨st.toSt,w0,?_⟩;replace hK: ∀ H' d_,Nx H0 st H' d_->d_.pre=st.pre->K d_=some r->PK d_.toSt:=fun H' s n p q=>hK H' s (n0.trans n) (p.trans p0) q;replace hw:=n0.ok;have nxt: ∀ (H1:Az T) (d_:Ag T),Nx H0 st H1 d_->d_.pre=st.pre->Y4 Γ rec ops il rest (k+1) d_ R K=some r->Ud P I ops rest d_.toSt PK:=fun H1 d_ n1 p1 q=>
    sL aci il rest (k+1) d_ H1 n1.ok R K r q PK fun H' s n p q=>hK H' s (n1.trans n) (p.trans p1) q
   split at hr
   ·obtain⟨d_,⟨⟨H1,n1⟩,p1,w1⟩,hr⟩:=gZ hw o R _ r hr;grind
   ·rename_i sp _;obtain⟨d_,⟨⟨H1,n1⟩,p1,w1⟩,hr⟩:=sK hw o sp R _ r hr;grind
   ·rename_i h _;obtain⟨g1,g2⟩:=RI (PK:=fun s=>Ud P I ops rest s PK) aci hw hr fun H' s n p q=>nxt H' s n p q;simp only [dG,g1];exact .inl g2
   ·rename_i sh h _;unfold jn at hr;obtain⟨g1,g2⟩:=RI (PK:=fun s=> ∃ s',Wk s s'/\Ud P I ops rest s' PK) aci hw hr fun H' s n p q=>by
     split at q
     ·rename_i v hg;dsimp only at q;split at q
      ·rename_i s' hi;obtain⟨H2,n2⟩:=HV.afO hw (Eq sh.ts v) hi;have hp:s'.pre=st.pre:=by
        unfold HV.inst at hi;split at hi
        ·rename_i s1 us h1;split at hi
         ·rename_i s2 us2 h2;injection hi with hi;subst hi;obtain⟨⟨Ha,na⟩,nb,_,_,np,_⟩:=Kr (sh.ag4 hw) (Eq sh.ts v) h1;obtain⟨_,_,_,mp,_⟩:=Mu na nb h2;rw [mp,np];rfl
         ·cases hi
        ·cases hi
       grind [HV.ae6]
      ·cases q
     ·cases q
    simp only [dG,g1];refine .inl ?_;intro F a w G Q hI hR;refine Oper.wp_mono (fun _ _ ⟨_,G',⟨s',hwk,hp⟩,hR'⟩=>?_) (g2 F a w G Q hI hR);obtain⟨G'',q⟩:=hwk _ _ _ _ hR';grind
   ·rename_i ks ke kd h _;split at hr
    ·rename_i key d hfk hdg;unfold jn at hr;dsimp only at hr;obtain⟨j,want,e1,e2,e3,e4⟩:=xT hw hdg;have main: ∀ x:OW T.den kd,Y4 Γ rec ops il rest (k+1) (((kpt ks ke).base st).put (some d) (.g key (.c (.k kd x)))) R K=some r->Ud P I ops rest (((kpt ks ke).base st).put (some d) (.g key (.c (.k kd x)))).toSt PK:=fun x q=>by have nb:=HV.ag4 (kpt ks ke) hw;obtain⟨H2,n2⟩:=LJ (st:=(kpt ks ke).base st) nb.ok e4 (some d) (v:= .c (.k kd x)) (by grind [DV.ok,DC.ok]);exact nxt H2 _ (nb.trans n2) (by rw [AW];rfl) q
     simp only [dG,e1,e3];refine .inl ⟨fun hc=> .inl ?_,fun hc=>?_⟩
     ·rw [if_pos hc]at hr;obtain⟨⟨Hu,nu⟩,_,hu⟩:=MC (l:=xR o) hc hw e4;obtain⟨_,g2⟩:=RI (PK:=fun s=> ∃ s',Wk s s'/\Ud P I ops rest s' PK) aci nu.ok hr fun H' b n' _ q=>by
       have n:=nu.trans n';split at q
       ·rename_i v0 x hg hx;refine⟨_,?_,main x q⟩;have hwk:=HV.ae6 hw n hg (s1:=(kpt ks ke).base st) rfl;intro F a w G hR;obtain⟨G',q'⟩:=hwk F a w G hR;refine⟨G',?_⟩;rw [Ag.r_];refine q'.agm ?_;have hsl:Ad w G (b.toSt.get d) (a.tmps.getD d Go.undef):=hR.M_ d;rw [b.abF d,sq hx]at hsl;have hf:(Bk T.enc kd x).flat =true:=by cases kd<;>first | rfl | cases hfk
        simp_all [DV.toV,DC.toC,Ad,AZ]
       ·cases q
      intro F a w G Q hI hR;have g3:o.wp P a w (ot F fun s=> ∃ s',Wk s s'/\Ud P I ops rest s' PK) Q:=g2 F a w G Q hI (hu F a w G hR);grind [Oper.wp_mono,Abj]
     ·rw [if_neg (by rw [hc];simp)]at hr;grind [xS,u4,Ag.r_,DV.toV]
    ·cases hr
end
abbrev EN:HV:=⟨[],[],[],[]⟩
abbrev AD:Sg:= .v (.k (.int .i64))
abbrev B1:Sg:= .v (.k .bool)
abbrev A0 (n:Nat):Nat×VSp:=(n, .c AD)
abbrev EO (n:Nat):Nat×VSp:=(n, .c B1)
abbrev O4 (n:Nat):Nat×VSp:=(n, .c (.v (.k .str)))
end Go.PL
namespace Go.PL
open Go Go.RowKit
variable {T:Bl}
def fnl:DV T->Bool
 | .c (.k k _)=>OX k
 | .c (.c (.n_ _))=>true
 | _=>false
theorem AeC {v:DV T} (h:fnl v=true) {w:World} {G:AJ} {a b:Value} (ha:Ad w G v.toV a) (hb:Ad w G v.toV b):a=b:=by
 unfold fnl at h;split at h
 ·rename_i k x;have hf:(Bk T.enc k x).flat =true:=by cases k<;>first | rfl | cases h
  grind [DV.toV,DC.toC,Ad,AZ]
 all_goals grind [DV.toV,DC.toC,Ad,Af]
structure Pw where
 i:Nat
 d:Nat
 x:Operand
 id:Ah
 off:Nat
 ag:Bool
 n:Nat
 te:Nat
 ts:Nat
def V8 (P:Program) (ops:Array Oper) (lz:List Nat) (H:Az T) (nx:Nat) (q:Pw):Prop:=
 ∃ o t cs,ops[q.i]? =some o/\o.op= .load t q.x/\o.dst=some q.d/\KO P t=some (q.ag,q.n)/\q.te<nx/\q.ts<nx/\(H.e q.te).id =q.id/\(H.e q.te).x = .box cs/\
   FB q.ag q.off q.n cs.length=true/\H.v q.ts=C1 q.ag q.off q.n cs/\(fnl (H.v q.ts)=true\/q.i∈lz)
theorem V8.nx {P:Program} {ops:Array Oper} {lz:List Nat} {H H':Az T} {st d_:Ag T} {q:Pw} (h:V8 P ops lz H st.nx q) (hn:Nx H st H' d_):V8 P ops lz H' d_.nx q:=by obtain⟨o,t,cs,h1,h2,h3,h4,h5,h6,h7,h8,h9,h10,h11⟩:=h;have e1:=(hn.ext q.te h5).2;have e2:=(hn.ext q.ts h6).1;exact⟨o,t,cs,h1,h2,h3,h4,lt_of_lt_of_le h5 hn.le,lt_of_lt_of_le h6 hn.le,by grind,by grind,h9,by grind,by grind⟩
def u5 (st:Ag T) (q:Pw):Bool:=match st.ev q.x,GP st.so q.id,Jy st q.id with
 | .c (.c (.ptr id off)),some e,some _=>Bc id q.id&&(Nat.beq off q.off&&(Nat.beq e.tag q.te&&(Nat.beq (XT st.tm q.d) (q.ts+1)&&Nat.blt q.d st.m)))
 | _,_,_=>false
theorem VF {st:Ag T} {id:Ah} {cs:List (DC T)} (h:Jy st id=some cs): ∃ e,GP st.so id=some e/\e.x= .box cs:=by grind [Jy,Ag.look]
section
variable {H:Az T} {P:Program} {st:Ag T}
theorem fa {t:TypeId} {ag:Bool} {n:Nat} {id:Ah} {off:Nat} {cs:List (DC T)} (hw:AK H st) (ht:KO P t=some (ag,n)) (hb:Jy st id=some cs) (ho:FB ag off n cs.length=true):
 (C1 ag off n cs).ok H st.nx/\(DJ P t st.toSt (.c (.ptr id off))).1/\(DJ P t st.toSt (.c (.ptr id off))).2=(C1 (T:=T) ag off n cs).toV :=by
 have hd:=X5 (P:=P) (t:=t) (key:=[]) (v:=(.c (.c (.ptr id off)):DV T)) hw (by grind [DV.ok,DC.ok]) (DV T) some (C1 ag off n cs) (by simp only [k7,ht,hb,ho];rfl);obtain⟨v,h1,h2⟩:=hd;injection h2 with h2;subst h2;have:=h1 rfl;grind [DV.toV,DC.toC]
theorem W9 (hw:AK H st) {ops:Array Oper} {lz:List Nat} {q:Pw} (hq:V8 P ops lz H st.nx q) (h:u5 st q=true) {o:Oper} (ho:ops[q.i]? =some o) {F:Fr} {a:Act} {w:World} {G:AJ} (hR:R F st.toSt a w G):
 o.dst=some q.d/\ ∃ v,(q.i∈lz\/v=a.tmps.getD q.d Go.undef)/\Ad w G (st.toSt.tm.getD q.d .undef) v/\ ∀ w',CY w w'->(execOp a.eval o).run P w'= .ok (.value v) w':=by
 obtain⟨o',t,cs,h1,h2,h3,h4,h5,h6,h7,h8,h9,h10,h11⟩:=hq;rw [h1]at ho;injection ho with ho;subst ho;unfold u5 at h;split at h
 ·rename_i id off e cs' hev hlk hbx;simp only [and_eq_true,beq_eq,AQ,blt_eq]at h;obtain⟨k1,k2,k3,k4,k5⟩:=h;subst k1 k2;obtain⟨e',l1,l2⟩:=VF hbx;rw [hlk]at l1;injection l1 with l1;subst l1;have hm:=(CM hlk).1;have he:=(hw.so e hm).2.1;rw [k3]at he;rw [he,l2]at h8;injection h8 with h8;subst h8;obtain⟨m1,m2,m3⟩:=fa hw h4 hbx h9;have aiM:=st.acp q.x;rw [hev]at aiM;have awa:st.toSt.arg true q.x=(True, .c (.ptr q.id q.off)):=by grind [St.arg,DV.toV,DC.toC]
  have hs:(DQ P st.toSt true o'.op).1:=by rw [h2];show (rd P st.toSt true (.load t q.x)).1;simp_all [rd,Z_]
  obtain⟨v,q1,q2⟩:=FP hR rfl hs;have e2:(DQ P st.toSt true o'.op).2=(C1 (T:=T) q.ag q.off q.n cs').toV :=by rw [h2];show (rd P st.toSt true (.load t q.x)).2=_;grind [rd,Z_]
  rw [e2]at q1;obtain⟨_,hv⟩:=XU hw.tm k4;have azg:st.get q.d=C1 q.ag q.off q.n cs':=by unfold Ag.get;rw [show Nat.blt q.d st.m=true by simpa using k5];grind
  have hsl:=hR.M_ q.d;have hg:st.toSt.tm.getD q.d .undef =(st.get q.d).toV :=st.abF q.d;grind [AeC]
 ·cases h
theorem xU (hw:AK H st) {ops:Array Oper} {lz:List Nat} {q:Pw} (hq:V8 P ops lz H st.nx q) (h:u5 st q=true) {o:Oper} (ho:ops[q.i]? =some o) (hc:DL o=1) {F:Fr} {a:Act} {w:World} {G:AJ} (hR:R F st.toSt a w G):uE P (q.i∈lz) o a w:=by obtain⟨h1,v,h2,h3,h4⟩:=W9 hw hq h ho hR;intro d hd;rw [h1]at hd;injection hd with hd;subst hd;exact⟨v,h2,(by grind)⟩
theorem xV {I:World->Prop} (hw:AK H st) {o:Oper} (hk:Cb o.op= .rd) {v:DV T} (hv:Rd H P st [] o.op v):Yld P I o st.toSt (st.put o.dst v).toSt :=fun F a w G hI hR=>by obtain⟨h1,h2,h3⟩:=hv rfl;obtain⟨u,q1,q2⟩:=FP hR rfl h2;change Ad w G (DQ P st.toSt true o.op).2 u at q1;rw [show (DQ P st.toSt true o.op).2=v.toV from h3]at q1;exact⟨u,G,q2,by rw [Ag.r_];exact hR.put q1⟩
end
def AeD (P:Program) (z:Bool) (o:Oper) (i:Nat) (st:Ag T):Option (Ag T×Pw):=match o.op,o.dst with
 | .load t x,some d=>match KO P t,st.ev x with
   | some (ag,n), .c (.c (.ptr id off))=>match Jy st id,GP st.so id with
     | some cs,some e=>match FB ag off n cs.length&&(fnl (C1 ag off n cs)||z)with
       | true=>some (st.put (some d) (C1 ag off n cs),⟨i,d,x,id,off,ag,n,e.tag,st.nx⟩)
       | false=>none
     | _,_=>none
   | _,_=>none
 | _,_=>none
theorem Abk {H:Az T} {P:Program} {I:World->Prop} {st d_:Ag T} (hw:AK H st) {ops:Array Oper} {lz:List Nat} {z:Bool} {o:Oper} {i:Nat} {q:Pw} (hz:z=true->i∈lz) (hi:ops[i]? =some o) (h:AeD P z o i st=some (d_,q)):
 ∃ H',Nx H st H' d_/\d_.pre=st.pre/\Yld P I o st.toSt d_.toSt/\V8 P ops lz H' d_.nx q/\q.i=i:=by
 unfold AeD at h;split at h
 ·rename_i t x d hop hd;split at h
  ·rename_i ag n id off ht hev;split at h
   ·rename_i cs e hbx hlk;split at h
    ·rename_i hb;simp only [and_eq_true,or_eq_true]at hb;injection h with h;injection h with h1 h2;subst h1 h2;obtain⟨m1,m2,m3⟩:=fa hw ht hbx hb.1;have he:=C4.agL H st.nx (C1 (T:=T) ag off n cs);obtain⟨e',l1,l2⟩:=VF hbx;rw [hlk]at l1;injection l1 with l1;subst l1;obtain⟨k1,k2,k3⟩:=hw.so e (CM hlk).1;have hnx:Nx H st (H.agL st.nx (C1 ag off n cs)) (st.put (some d) (C1 ag off n cs)):=by
      obtain⟨H',hn⟩:=Ag.aaL hw (some d) m1;refine⟨he,by simp [Ag.put],?_,?_,?_,hw.nd⟩
      ·intro s t' w' hm;simp only [Ag.put,mem_cons,Prod.mk.injEq]at hm ⊢;rcases hm with ⟨rfl,rfl,rfl⟩ | hm
       ·exact⟨Nat.lt_succ_self _,by simp [Az.agL],DV.ads he (le_succ _) m1⟩
       ·exact BT he (le_succ _) hw.tm s t' w' hm
      ·exact fun f hf=>BT he (le_succ _) (hw.gh f hf)
      ·exact Fj he (le_succ _) hw.so
     refine⟨_,hnx,AW _ _ _,?_,⟨o,t,cs,hi,hop,hd,ht,lt_of_lt_of_le k1 hnx.le,by simp [Ag.put],?_,?_,hb.1,by simp [Az.agL],?_⟩,rfl⟩
     ·have hrd:Rd H P st [] o.op (C1 ag off n cs):=fun _=>by
       have aiM:=st.acp x;rw [hev]at aiM;have awa:st.toSt.arg (Bb []) x=(True, .c (.ptr id off)):=by grind [St.arg,DV.toV,DC.toC]
       rw [hop];refine⟨m1,?_,?_⟩
       ·show (rd P st.toSt (Bb []) (.load t x)).1;simp_all [rd,Z_]
       ·show (rd P st.toSt (Bb []) (.load t x)).2=_;grind [rd,Z_]
      have:=xV (I:=I) hw (by rw [hop];rfl) hrd;grind
     ·rw [(hnx.ext e.tag k1).2,k2];exact(CM hlk).2.1
     all_goals grind [Az.agL]
    ·cases h
   ·cases h
  ·cases h
 ·cases h
end Go.PL
set_option linter.all false
namespace Go.PL
open Go Go.RowKit
def Fr.ag0 (F:Fr) (b:Nat):Fr:=⟨F.w0,fun x=>F.av x/\x ≠ b,fun x=>F.old x\/x=b,F.I,F.gv⟩
def xW (F:Fr) (old:Nat->Prop):Prop:= ∀ w':World,F.w0.heap.size<=w'.heap.size->(∀ x,x<F.w0.heap.size-> ¬old x->w'.heap[x]? =F.w0.heap[x]?)->F.I w'
section
variable {F:Fr} {st:St} {a:Act} {w:World} {G:AJ}
theorem R.unnamed (h:R F st a w G) {b:Nat} (hav:F.av b) (j:Ah):G.y_ j ≠ some b:=fun q=>by
 rcases h.new j b q with k | k
 ·have:=h.abi b hav;omega
 ·exact h.aaI b k hav
theorem R.aBi (h:R F st a w G) {b:Nat} (hav:F.av b) (hinv:xW F (fun x=>F.old x\/x=b)) (e:AB) (nv:Option Value) (hp:e.pu=true->Au e.cs=true)
 (he:Ba w (B0 (F.ag0 b) G e.id (some b) nv) (e.kill e.id)):R (F.ag0 b) (st.new e) a w (B0 (F.ag0 b) G e.id (some b) nv):=by
 have hun:=h.unnamed hav;have hwr:G.wr b:=(h.wr b).2 (.inl hav);have hbw:b<w.heap.size:=lt_of_lt_of_le (h.abi b hav) h.L_;have hk:Cf G (B0 (F.ag0 b) G e.id (some b) nv) w w:=by
  refine⟨le_refl _,fun _ _ _=>rfl,fun x hx hw=>?_,fun _ _ _ _=>B7.same rfl⟩;simp only [B0,Fr.ag0]at hw;rcases hw with hw | ⟨i,hi⟩
  ·exact(h.wr x).2 (.inl hw.1)
  ·split at hi
   ·grind
   ·exact(h.wr x).2 (.inr ⟨i,hi⟩)
 refine {
  dfr:=h.dfr
  size:=by simp [St.new,St.kill,h.size]
  M_:=fun i=>?_
  Tk:=?_
  store:=fun e' he'=>?_
  deep:=fun e' he'=>?_
  P_:=fun e' he'=>?_
  nodup:=?_
  inj:=fun i j x hi hj=>?_
  lt:=fun i x hi=>?_
  new:=fun i x hi=>?_
  wr:=fun _=>Iff.rfl
  abi:=fun x hx=>h.abi x hx.1
  inv:=hinv
  aaI:=fun x hx hy=>?_
  os:=h.os,tape:=h.tape,output:=h.output,L_:=h.L_
  ext:=fun x hx ho=>h.ext x hx fun q=>ho (.inl q)}
 ·simp only [St.new,St.kill];rw [FN (by simp [EZ,V.E_])];exact Ad.mono hk _ _ (by grind [Dm,S5]) (S8 (h.M_ i))
 ·simp only [St.new,St.kill];exact Aw.mono hk _ _ (by grind [Dm,Qe]) (Qd h.Tk)
 ·simp only [St.new,St.kill]at he';rcases IX he' with ⟨rfl,_⟩ | he'
  ·exact he
  ·simp only [mem_map,mem_filter,and_eq_true]at he';obtain⟨d,⟨hd,hne,_⟩,rfl⟩:=he';have ad4:d.id ≠ e.id:=by grind
   exact Cq hk (Dm (F:=F.ag0 b) (fun i hi he'=>by subst he';rw [kk (h.P_ d hd)]at hi;cases hi)) (by grind [B0,AB.X_]) (fun _ _=>rfl) (dy (h.store d hd))
 ·simp only [St.new,St.kill]at he';rcases IX he' with ⟨rfl,h1,h2⟩ | he'
  ·exact Bu.asP h1 h2
  ·simp only [mem_map,mem_filter,and_eq_true]at he';obtain⟨d,⟨hd,hne,hmd⟩,rfl⟩:=he';have ad4:d.id ≠ e.id:=by grind
   have hmk:E9 (d.kill e.id).id =true-> ∀ k,BL k (d.kill e.id).id ≠ e.id:=by grind [AB.X_,j9]
   exact Bu.mono hk (by grind [B0,AB.X_]) (by grind [B0]) (fun _ _=>rfl) (fun _ _ _ _=>rfl) (h.deep d hd).kill
 ·simp only [St.new,St.kill]at he';rcases IX he' with ⟨rfl,_⟩ | he'
  ·exact OP hp
  ·simp only [mem_map,mem_filter]at he';obtain⟨d,⟨hd,hne⟩,rfl⟩:=he';exact OP (h.P_ d hd)
 ·have ahS:List.Sublist (((st.new e).so.map (·.id))) (e.id::((st.so.filter (fun d=>d.id != e.id&& !(C2 e.id&&E9 d.id))).map (·.id))):=by
   simp only [St.new,St.kill,US];split
   all_goals simp_all [Function.comp_def,AB.X_]
  refine List.Sublist.nodup ahS (nodup_cons.2 ⟨by grind,?_⟩);exact List.Sublist.nodup (by grind [filter_sublist]) h.nodup
 ·simp only [B0]at hi hj;split at hi<;>split at hj
  ·simp_all
  ·grind
  ·grind
  ·exact h.inj i j x hi hj
 ·simp only [B0]at hi;split at hi
  ·grind
  ·exact h.lt i x hi
 ·simp only [B0]at hi;split at hi
  ·injection hi with hi;exact .inr (.inr hi.symm)
  ·exact(h.new i x hi).imp (fun q=>q) .inl
 ·rcases hx with q | q
  ·exact h.aaI x q hy.1
  ·exact hy.2 q
def Fr.take (F:Fr) (w1:World) (b:Nat) (G:AJ):Fr:=⟨w1,fun x=>F.av x\/x=b,fun x=> ∃ i,G.y_ i=some x,F.I,F.gv⟩
theorem R.taken (h:R F st a w G) {w1:World} (ho:NE w w1) (hs:CY w w1) {b:Nat} (hb:b=w.heap.size) (hlt:b<w1.heap.size) (hinv:xW (F.take w1 b G) (F.take w1 b G).old) {d:Nat} {v:Value} (hd:st.get d= .undef):
 ∃ G1,R (F.take w1 b G) st (a.put (some d) v) w1 G1:=by
 have hk:Cf G (⟨G.y_,G.own,fun x=>(F.av x\/x=b)\/ ∃ i,G.y_ i=some x⟩:AJ) w w1:=by
  refine⟨hs.size,fun x hx _=>hs.block x hx,fun x hx hw=>?_,fun i x h1 _=>B7.same (hs.block x (h.lt i x h1))⟩;rcases hw with (hw | hw) | hw
  ·exact(h.wr x).2 (.inl hw)
  ·omega
  ·exact(h.wr x).2 (.inr hw)
 have ag: ∀ S:Ah->Prop,Jd S G (⟨G.y_,G.own,fun x=>(F.av x\/x=b)\/ ∃ i,G.y_ i=some x⟩:AJ):=fun _ _ _=>⟨rfl,rfl⟩;refine⟨⟨G.y_,G.own,fun x=>(F.av x\/x=b)\/ ∃ i,G.y_ i=some x⟩,{
  dfr:=h.dfr
  size:=by simp [Act.put,h.size]
  M_:=fun i=>?_
  Tk:=Aw.mono hk _ _ (ag _) h.Tk
  store:=fun e he=>Cq hk (ag _) ⟨rfl,rfl⟩ (fun x hx=>hs.block x (h.lt _ x hx)) (h.store e he)
  deep:=fun e he=>Bu.mono hk ⟨rfl,rfl⟩ (by grind) (fun x hx=>hs.block x (h.lt _ x hx)) (fun _ _ x hx=>hs.block x (h.lt _ x hx)) (h.deep e he)
  P_:=h.P_,nodup:=h.nodup,inj:=h.inj
  lt:=fun i x hi=>lt_of_lt_of_le (h.lt i x hi) hs.size
  new:=fun i x hi=> .inr ⟨i,hi⟩
  wr:=fun _=>Iff.rfl
  abi:=fun x hx=>?_
  inv:=hinv
  aaI:=fun x ⟨i,hi⟩ hx=>?_
  os:=rfl,tape:=rfl,output:=rfl,L_:=le_refl _
  ext:=fun _ _ _=>rfl}⟩
 ·by_cases hi:d=i
  ·subst hi;have:st.tm.getD d .undef = .undef :=hd;grind [Ad]
  ·have e:(a.put (some d) v).tmps.getD i Go.undef=a.tmps.getD i Go.undef:=by simp_all [Act.put]
   rw [e];exact Ad.mono hk _ _ (ag _) (h.M_ i)
 ·rcases hx with hx | hx
  ·exact lt_of_lt_of_le (h.abi x hx) (le_trans h.L_ hs.size)
  ·show x<w1.heap.size;omega
 ·rcases hx with hx | hx
  ·exact h.unnamed hx i hi
  ·have:=h.lt i x hi;omega
end
structure Kv (F0 F:Fr) (D:List (Nat×Nat)):Prop where
 apX:F.I=F0.I
 gv:F.gv=F0.gv
 av: ∀ x,F.av x↔F0.av x\/ ∃ i,(i,x)∈D
 size:F0.w0.heap.size<=F.w0.heap.size
 kept: ∀ x,x<F0.w0.heap.size-> ¬F0.old x-> ¬F.old x/\F.w0.heap[x]? =F0.w0.heap[x]?
 old: ∀ x,F.old x->F0.w0.heap.size<=x\/F0.old x
 new: ∀ p∈D,F0.w0.heap.size<=p.2
 os:F.w0.os=F0.w0.os
 tape:F.w0.tape=F0.w0.tape
 output:F.w0.output=F0.w0.output
theorem Kv.start (F:Fr):Kv F F []:=⟨rfl,rfl,fun x=>by simp,le_refl _,(by grind),fun _ h=> .inr h,(by grind),rfl,rfl,rfl⟩
def xX (F:Fr):Prop:=xW F F.old
section
variable {F0 F:Fr} {D:List (Nat×Nat)} {st:St} {a:Act} {w:World} {G:AJ}
theorem Kv.back (t:Kv F0 F []) (hi:xX F0) (hd: ∀ x,F0.old x-> ¬F0.av x) (hl: ∀ x,F0.av x->x<F0.w0.heap.size) (h:R F st a w G):R F0 st a w G where
 dfr:=h.dfr
 size:=h.size
 M_:=h.M_
 Tk:=by rw [<-t.gv];exact h.Tk
 store:=h.store
 deep:=h.deep
 P_:=h.P_
 nodup:=h.nodup
 inj:=h.inj
 lt:=h.lt
 new:=fun i x hx=>by
  rcases h.new i x hx with q | q
  ·exact .inl (le_trans t.size q)
  ·exact t.old x q
 wr:=fun x=>by rw [h.wr,t.av];simp
 abi:=hl
 inv:=hi
 aaI:=hd
 os:=h.os.trans t.os
 tape:=h.tape.trans t.tape
 output:=h.output.trans t.output
 L_:=le_trans t.size h.L_
 ext:=fun x hx ho=>by obtain⟨k1,k2⟩:=t.kept x hx ho;exact(h.ext x (by grind) k1).trans k2
theorem Kv.ayD (t:Kv F0 F D) (hi:xX F0) {old:Nat->Prop} (ho: ∀ x,x<F0.w0.heap.size-> ¬F0.old x-> ¬old x):xW F old:=fun w' hs hw=>by rw [t.apX];exact hi w' (le_trans t.size hs) fun x hx hx2=>(hw x (lt_of_lt_of_le hx t.size) (ho x hx hx2)).trans (t.kept x hx hx2).2
end
end Go.PL
set_option linter.all false
namespace Go.PL
open Go Go.RowKit
variable {T:Bl}
def iB:C->Bool
 | .int .. =>true
 | .bool _=>true
 | .str _=>true
 | .acV =>true
 | .aaJ =>true
 | .Tv =>true
 | .fn _=>true
 | .sl 0 []=>true
 | _=>false
theorem xY {c:C} (h:iB c=true) {w w':World} {G G':AJ} {v:Value} (hr:Af w G c v):Af w' G' c v:=by
 unfold iB at h;split at h
 all_goals simp_all [Af]
theorem lW {w w':World} {G G':AJ}: ∀ {cs:List C} {vs:List Value},cs.all iB=true->Ai w G cs vs->Ai w' G' cs vs
 | [],[],_,_=>by simp [Ai]
 | [],_::_,_,h=>by simp [Ai]at h
 | _::_,[],_,h=>by simp [Ai]at h
 | c::cs,v::vs,h,hr=>by simp only [all_cons,and_eq_true]at h;simp only [Ai]at hr ⊢;exact⟨xY h.1 hr.1,lW h.2 hr.2⟩
theorem xZ {c:C} (h:iB c=true) (i:Ah):c.E_ i=false:=by
 unfold iB at h;split at h
 all_goals first
  | rfl
  | grind
theorem lX: ∀ {cs:List C},cs.all iB=true-> ∀ i,BO i cs=false
 | [],_,_=>rfl
 | c::cs,h,i=>by simp only [all_cons,and_eq_true]at h;simp only [BO,xZ h.1,lX h.2,Bool.or_self]
def x6 (o:Oper):Bool:=match o.guard,o.dst,o.op with
 | none,some _, .alloc _=>true
 | none,some _, .buildSlice _ _ ps=>ps.toList.all fun p=>BI p.2
 | _,_,_=>false
def Ue:DX T->List C
 | .box cs=>Ax cs
 | .row E l=>l.flatMap (T.enc E)
 | .deep .. =>[]
def iD:DX T->Nat->Value
 | .row _ l,b=> .slice (some ⟨b,0,none⟩) l.length l.length
 | _,b=> .pointer (some ⟨b,0,none⟩)
def Y5:DX T->Ah->C
 | .row ..,id=> .n_ id
 | _,id=> .ptr id 0
def z8 (P:Program) (st:Ag T) (o:Oper):Option (DX T):=match o.op with
 | .alloc t=>match X9 P t with
   | some cs=>match (Ax cs).all iB with
     | true=>some (.box cs)
     | false=>none
   | none=>none
 | .buildSlice t len ps=>match Ed P t,Hc st [] ps.toList with
   | some (E,n,_),some vs=>match Qt P E with
     | some z=>match Vm (fun i=>some (i*n,n)) ((List.replicate len z).flatMap id) (vs.map fun x=>(x.1,TR x.2))with
       | some cs=>match KV E len cs with
         | some l=>match (Nat.beq n (T.sz E)&&(Nat.beq z.length n&&(Nat.blt 0 n&&(Nat.ble (len*n) (2 ^ 24)&&Nat.beq cs.length (len*n)))))&&(Ax cs).all iB with
           | true=>some (.row E l)
           | false=>none
         | none=>none
       | none=>none
     | none=>none
   | _,_=>none
 | _=>none
theorem RJ {st d_:Ag T}: ∀ {ps:List (Nat×Operand)},(ps.all fun p=>BI p.2)=true->Hc st [] ps=Hc d_ [] ps
 | [],_=>rfl
 | (i,x)::r,h=>by
   simp only [all_cons,and_eq_true]at h;have ih:=RJ (st:=st) (d_:=d_) h.2;have hx:st.arg [] x=d_.arg [] x:=by
    cases x with
    | const v=>rfl
    | _=>cases h.1
   simp only [Hc,ih,hx]
theorem Uf {P:Program} {st d_:Ag T} {o:Oper} (h:x6 o=true):z8 P st o=z8 P d_ o:=by grind [x6,z8,RJ]
structure AeE (x:DX T) (arr:Array Value) (Tt:TypeId):Prop where
 ind:(Ue x).all iB=true
 rel: ∀ w G,Ai w G (Ue x) arr.toList
 row: ∀ E l,x= .row E l->Tt=E/\arr.size=l.length*T.sz E/\l.length<=maxLen
 nd: ∀ E n l h,x ≠ .deep E n l h
 ok:x.ok
theorem Abl {P:Program} {H:Az T} {st:Ag T} {o:Oper} {x:DX T} (hw:AK H st) (h:z8 P st o=some x) {F:Fr} {a:Act} {w:World} {G:AJ} (hR:R F st.toSt a w G):
 ∃ arr Tt,(execOp a.eval o).run P w= .ok (.value (iD x w.heap.size)) (w.alloc (.cells arr Tt))/\AeE x arr Tt:=by
 unfold z8 at h;split at h
 ·rename_i t hop;split at h
  ·rename_i cs hz;split at h
   ·rename_i hi;injection h with h;subst h;obtain⟨z1,z2⟩:=NQ hz;obtain⟨i,z,hi1,hzv,hc⟩:=Qf z1;refine⟨z.cells,t,?_,hi,fun w G=>Kj hc,(by grind),(by grind),z2⟩;simp_all [execOp,Instr.alloc,aeN,newVar,newRow,iD]
   ·cases h
  ·cases h
 ·rename_i t len ps hop;split at h
  ·rename_i E n by' vs abX hp;split at h
   ·rename_i z hz;split at h
    ·rename_i cs hf;split at h
     ·rename_i l hl;split at h
      ·rename_i hg;injection h with h;subst h;simp only [and_eq_true,beq_eq,blt_eq,ble_eq]at hg;obtain⟨⟨g1,g2,g3,g4,g5⟩,g6⟩:=hg;subst g1;obtain⟨p1,p2,p3⟩:=FV (key:=[]) hw (fun _ hl=>by cases hl) rfl hp;obtain⟨z1,z2⟩:=HU hz;obtain⟨f1,_⟩:=JC hf;rw [Qv z (by omega),Yp]at f1;change (st.toSt.parts true ps.toList).1 at p2;change (st.toSt.parts true ps.toList).2=lf vs at p3;rw [<-p3]at f1;obtain⟨hlen,r,hr⟩:=Eh hl;have hrn:r=[]:=by have:=congrArg List.length hr;grind [AP,Dp,AV,List.length_eq_zero_iff]
       subst hrn;rw [append_nil]at hr;obtain⟨abN,q1,q2,q3,q4,q5⟩:=Jo hR abX z1 f1 p2 (by rw [AP];exact g2) g3 g4;refine⟨abN,E,?_,by grind [Ue],(by grind [Ue,lW]),fun E' l' q=>?_,(by grind),trivial⟩
       ·simp_all [execOp,iD]
       grind
      ·cases h
     ·cases h
    ·cases h
   ·cases h
  ·cases h
 ·cases h
theorem u7 {H:Az T} {st s:Ag T} {x:DX T} {arr:Array Value} {Tt:TypeId} (hw:AK H st) (hx:AeE x arr Tt) {F:Fr} {a:Act} {w:World} {G:AJ} (hR:R F st.toSt a w G) {b:Nat} (hav:F.av b) (hinv:xW F (fun y=>F.old y\/y=b))
 (hh:w.heap[b]? =some (.cells arr Tt (0,0))) {d:Nat} (hv:a.tmps.getD d Go.undef=iD x b) (hs:st.new (d::st.pre) x=some s): ∃ G',R (F.ag0 b) (s.put (some d) (.c (.c (Y5 x (d::st.pre))))).toSt a w G':=by
 obtain⟨_,ajC,_⟩:=Ag.acW hw hx.ok hs;have Tc:(⟨d::st.pre,0,x⟩:DE T).toE.cs =Ue x:=by
  unfold DE.toE;cases x with
  | box cs=>rfl
  | row E l=>rfl
  | deep E n l h=>exact absurd rfl (hx.nd E n l h)
 have hk:((⟨d::st.pre,0,x⟩:DE T).toE.kill (d::st.pre))=(⟨d::st.pre,0,x⟩:DE T).toE :=AB.agS (by
  simp only [AB.fre,or_eq_true,not_eq_true'];right;rw [Tc];exact lX hx.ind _)
 have hr0: ∀ G',Am w G' (Ue x) b 0:=fun G'=>Am.aaY (hx.rel w G') (BA hh (rest:=[]) (by grind));have key: ∃ nv:Option Value,(∀ G',Ba w (B0 (F.ag0 b) G' (d::st.pre) (some b) nv) (⟨d::st.pre,0,x⟩:DE T).toE)/\(∀ G',Af w (B0 (F.ag0 b) G' (d::st.pre) (some b) nv) (Y5 x (d::st.pre)) (iD x b)):=by
  cases x with
  | box cs=>
    refine⟨none,fun G'=>kl rfl ⟨b,Tt,arr,by simp [B0,DE.toE],hh,?_,hr0 _⟩,fun G'=>?_⟩
    ·have:(Ax cs).length =arr.toList.length:=(hx.rel w G).length;show arr.size=(Ax cs).length;grind
    ·simp only [Y5,iD,Af];exact⟨b,by simp [B0],rfl⟩
  | row E l=>
    obtain⟨e1,e2,e3⟩:=hx.row E l rfl;refine⟨some (.slice (some ⟨b,0,none⟩) l.length l.length),fun G'=>Jk rfl ⟨?_,_,by simp [B0,DE.toE], .inr ⟨b,l.length,arr,rfl,by simp [B0,DE.toE],by grind,le_refl _,e3,e2,hr0 _⟩⟩,fun G'=>?_⟩
    ·show (l.flatMap (T.enc E)).length =_;grind [Dp,AV]
    ·simp only [Y5,iD,Af];exact⟨by simp [B0],rfl⟩
  | deep E n l h=>exact absurd rfl (hx.nd E n l h)
 obtain⟨nv,k1,k2⟩:=key;have hid:(⟨d::st.pre,0,x⟩:DE T).toE.id =d::st.pre:=DE.toE_id _;have aiL:=hR.aBi hav hinv (⟨d::st.pre,0,x⟩:DE T).toE nv (fun hp=>by
  cases x with
  | box cs=>cases hp
  | row E l=>exact Cg _ (fun y=>by have:=Dd (T:=T) (.s E) y;grind [Eo,V.pure]) _
  | deep E n l h=>exact absurd rfl (hx.nd E n l h)) (by grind)
 rw [hid]at aiL;refine⟨B0 (F.ag0 b) G (d::st.pre) (some b) nv,?_⟩;rw [Ag.r_];refine(aiL.less ajC).agm ?_;grind [DV.toV,DC.toC,Ad]
end Go.PL
set_option linter.all false
namespace Go.PL
open Go Go.RowKit
variable {T:Bl}
def prI (acc:List (List Nat)) (d:List Nat) (i:Nat):List Nat:=(List.range i).filter fun j=>Jv d j||d.any fun k=>Jv (acc.getD k []) j
def AgM (ops:Array Oper):Nat->Nat->List (List Nat)->List (List Nat)
 | 0,_,acc=>acc
 | n+1,i,acc=>AgM ops n (i+1) (acc++[prI acc (kU ops i) i])
def AgN (ops:Array Oper):List (List Nat):=AgM ops ops.size 0 []
def RL (ops:Array Oper) (v:List Bool) (i:Nat):Bool:= !bv v i&&(kU ops i).all (bv v)
theorem lY {ops:Array Oper} {v:List Bool} (hv:v.length=ops.size):Region.ready .any ops v.toArray=(List.range ops.size).filter (RL ops v):=by
 unfold Region.ready;refine List.filter_congr fun i hi=>?_;have hi:i<ops.size:=by grind
 have ho:ops[i]? =some ops[i]:=(by grind);unfold RL kU;rw [ho];have e1:v.toArray.getD i true=bv v i:=by simp_all [bv]
 rw [e1];congr 1;simp only [Option.map_some,Option.getD_some];rw [Bool.eq_iff_iff];simp only [Array.all_eq_true_iff_forall_mem,or_eq_true,not_eq_true',all_eq_true,mem_map,mem_filter,forall_exists_index,and_imp,forall_apply_eq_imp_iff₂];constructor
 ·intro h x e he hb hx;subst hx;have:=h e (by simpa using he);simp_all [bv]
 ·intro h e he;cases hb:Region.binds .any e
  ·grind
  ·right;have:=h e.on e (by simpa using he) hb rfl;simp_all [bv]
def Ac5 (ops:Array Oper) (v:List Bool):Option Nat:=(List.range ops.size).find? fun i=>RL ops v i&& !Nat.beq (NX ops i) 0
def pV (ops:Array Oper) (i:Nat):Bool:=match ops[i]? with
 | some o=>x6 o
 | none=>false
def x7 (ops:Array Oper) (v:List Bool):Option Nat:=match (List.range ops.size).filter fun i=>RL ops v i&& !pV ops i with
 | [i]=>some i
 | []=>(List.range ops.size).find? fun i=>RL ops v i&&pV ops i
 | _=>none
def AeF (ops:Array Oper) (pr:List (List Nat)) (v:List Bool) (i:Nat):Bool:=(List.range ops.size).all fun k=>bv v k||(Nat.beq k i||(pV ops k||(pr.getD k []).any fun j=> !bv v j&&(!pV ops j||Nat.beq j i)))
def isU:DV T->Bool
 | .u =>true
 | _=>false
def unM (ops:Array Oper) (v:List Bool) (st:Ag T):Bool:=(List.range ops.size).all fun k=>bv v k||match ops[k]? with
 | some o=> !x6 o||match o.dst with
   | some d=>isU (st.get d)&&Nat.blt d st.m
   | none=>false
 | none=>true
def Y6 (ops:Array Oper):Bool:=(List.range ops.size).all fun i=>(List.range ops.size).all fun j=>Nat.beq i j||match ops[i]?,ops[j]? with
 | some o,some o'=>match o.dst,o'.dst with
   | some d,some e=> !Nat.beq d e
   | _,_=>true
 | _,_=>true
def Y7 (P:Program) (ops:Array Oper) (st:Ag T):Bool:=ops.toList.all fun o=> !x6 o||(z8 P st o).isSome
def u9:List Oper->Ag T->Ag T
 | [],st=>st
 | o::r,st=>match x6 o with
   | true=>u9 r (st.put o.dst .u)
   | false=>u9 r st
def ya (ops:Array Oper) (pr:List (List Nat)) (v:List Bool) (p:Nat):Bool:=(List.range ops.size).any fun k=>bv v k&&(Nat.beq (NX ops k) 0&&Jv (pr.getD k []) p)
def Y8 (ops:Array Oper) (pr:List (List Nat)) (v:List Bool) (pd:List Pw) (st:Ag T):Bool:=
 (List.range ops.size).all fun p=> !bv v p||(!Nat.beq (NX ops p) 1||(ya ops pr v p||pd.any fun q=>Nat.beq q.i p&&u5 st q))
def VG (ops:Array Oper) (pr:List (List Nat)) (lz:List Nat) (v:List Bool) (pd:List Pw) (st:Ag T):Bool:=
 lz.all fun p=> !bv v p||(ya ops pr v p||pd.any fun q=>Nat.beq q.i p&&u5 st q)
def isN:HA->Bool
 | .n =>true
 | _=>false
def yb (o:Oper):Bool:=match o.op,o.guard,o.dst with
 | .buildSlice ..,none,some _=>true
 | _,_,_=>false
def yc (o:Oper) (st:Ag T):Bool:=match o.dst with
 | some d=>Nat.blt d st.m
 | none=>false
def AgO (o:Oper):Bool:=match o.op with
 | .load .. =>true
 | _=>false
def AgP:HA->Option Bool
 | .q (.sub md)=>some md
 | _=>none
def AgQ (P:Program) (st:Ag T) (o:Oper):HA->Bool
 | .q .dlx =>true
 | .q .au =>auL P st o
 | _=>false
def opR {P:Program} {I:World->Prop} (Γ:List (CE T P I)) (rec:uZ T) (ops:Array Oper) (o:Oper) (st:Ag T) (h:HA) (R:Type) (K:Ag T->Option R):Option R:=match h with
 | .n =>dop Γ ops o st R K
 | .q sp=>Abi Γ ops o st sp R K
 | .c h=>pU P rec o h st R K
 | .j sh h=>jn (fun v:RT T sh.ts=>match sh.inst st (Cw sh.ts v)with
  | some s=>K s
  | none=>none) (fun j=>pU P rec o h st R fun b=>match sh.gen st b with
  | some v=>j v
  | none=>none)
 | .u .. =>none
def LP {P:Program} {I:World->Prop} (Γ:List (CE T P I)) (rec:uZ T) (ops:Array Oper) (pr:List (List Nat)) (lz:List Nat) (il:Hl):Nat->List Bool->List Pw->Ag T->(R:Type)->(Ag T->Option R)->Option R
 | 0,v,pd,st,R,K=>match VG ops pr lz v pd st with
   | false=>none
   | true=>match (List.range ops.size).all (bv v)with
     | true=>Uc il ops.size st R K
     | false=>none
 | n+1,v,pd,st,R,K=>match VG ops pr lz v pd st with
   | false=>none
   | true=>match Ac5 ops v with
     | some i=>match ops[i]? with
       | some o=>match Nat.beq (DL o) 2,yc o st with
         | true,true=>LE P [] st o.op R fun u=>LP Γ rec ops pr lz il n (v.set i true) pd (st.put o.dst u) R K
         | false,true=>match AgP (LO il i),AgQ P st o (LO il i),AgO o with
           | some md,_,_=>Aa4 P o md st R fun d_=>LP Γ rec ops pr lz il n (v.set i true) pd d_ R K
           | none,true,_=>dlx P o st R fun d_=>LP Γ rec ops pr lz il n (v.set i true) pd d_ R K
           | none,false,false=>none
           | none,false,true=>match AeD P (Jv lz i) o i st with
             | some (d_,q)=>LP Γ rec ops pr lz il n (v.set i true) (q::pd) d_ R K
             | none=>LE P [] st o.op R fun u=>LP Γ rec ops pr lz il n (v.set i true) pd (st.put o.dst u) R K
         | _,_=>none
       | none=>none
     | none=>match x7 ops v with
       | some i=>match ops[i]?,AeF ops pr v i&&unM ops v st with
         | some o,true=>match DL o,x6 o with
           | 0,true=>match o.dst,z8 P st o with
             | some d,some x=>match st.new (d::st.pre) x with
               | some s=>LP Γ rec ops pr lz il n (v.set i true) pd (s.put (some d) (.c (.c (Y5 x (d::st.pre))))) R K
               | none=>none
             | _,_=>none
           | 0,false=>match yb o&&isN (LO il i)with
             | true=>uy P st o R fun d_=>LP Γ rec ops pr lz il n (v.set i true) pd d_ R K
             | false=>opR Γ rec ops o st (LO il i) R fun d_=>match Y8 ops pr (v.set i true) pd d_ with
               | true=>LP Γ rec ops pr lz il n (v.set i true) pd d_ R K
               | false=>none
           | _,_=>none
         | _,_=>none
       | none=>none
theorem yd {α:Type} {p:α->Bool} {l:List α} {x:α} (h:l.find? p=some x):x∈l/\p x=true:=(by grind)
theorem Gq (v:List Bool) (k:Nat):v.toArray.getD k false=bv v k:=by simp_all [bv]
theorem De {v:List Bool} {i k:Nat} (hi:i<v.length):bv (v.set i true) k=(k==i||bv v k):=by simp only [bv,List.getD_eq_getElem?_getD,getElem?_set];grind
theorem N7 {o:Oper} (h:x6 o=true):o.guard=none/\(∃ d,o.dst=some d)/\DL o=0:=by grind [x6,DL,NW]
theorem Kv.take {F0 F:Fr} {D:List (Nat×Nat)} {st:St} {a:Act} {w w1:World} {G:AJ} (t:Kv F0 F D) (h:R F st a w G) (ho:NE w w1) (hs:CY w w1) (i:Nat):Kv F0 (F.take w1 w.heap.size G) ((i,w.heap.size)::D):=by
 have h1:=le_trans t.size h.L_;refine⟨t.apX,t.gv,fun x=>?_,le_trans h1 hs.size,fun x hx hx2=>?_,fun x ⟨j,hj⟩=>?_,fun p hp=>?_,ho.os.trans (h.os.trans t.os),ho.tape.trans (h.tape.trans t.tape),ho.output.trans (h.output.trans t.output)⟩
 ·show F.av x\/x=w.heap.size↔_;rw [t.av];grind
 ·obtain⟨k1,k2⟩:=t.kept x hx hx2;refine⟨fun⟨j,hj⟩=>?_,?_⟩
  ·rcases h.new j x hj with q | q
   all_goals grind
  ·show w1.heap[x]? =_;rw [hs.block x (by omega),h.ext x (by grind) k1,k2]
 ·rcases h.new j x hj with q | q
  ·exact .inl (le_trans t.size q)
  ·exact t.old x q
 ·rcases mem_cons.1 hp with rfl | hp
  ·exact h1
  ·exact t.new p hp
theorem iE {α β:Type} {f:α->β}: ∀ {l:List α} {x y:α},(l.map f).Nodup ->x∈l->y∈l->f x=f y->x=y
 | a::l,x,y,h,hx,hy,e=>by
   rw [map_cons]at h;obtain⟨h1,h2⟩:=nodup_cons.1 h;rcases mem_cons.1 hx with q1 | q1<;>rcases mem_cons.1 hy with q2 | q2
   ·rw [q1,q2]
   ·subst q1;exact absurd (mem_map.2 ⟨y,q2,e.symm⟩) h1
   ·subst q2;exact absurd (mem_map.2 ⟨x,q1,e⟩) h1
   ·exact iE h2 q1 q2 e
theorem Kv.ag0 {F0 F:Fr} {D:List (Nat×Nat)} {i b:Nat} (t:Kv F0 F D) (hi:(i,b)∈D) (n1:(D.map (·.1)).Nodup) (n2:(D.map (·.2)).Nodup) (hl: ∀ x,F0.av x->x<F0.w0.heap.size):Kv F0 (F.ag0 b) (D.filter fun p=>p.1 != i):=by
 have hb:=t.new _ hi;simp only at hb;refine⟨t.apX,t.gv,fun x=>?_,t.size,fun x hx hx2=>?_,fun x hx=>?_,fun p hp=>t.new p (by grind),t.os,t.tape,t.output⟩
 ·show F.av x/\x ≠ b↔_;rw [t.av];constructor
  ·rintro⟨q | ⟨j,q⟩,hne⟩
   ·exact .inl q
   ·refine .inr ⟨j,mem_filter.2 ⟨q,?_⟩⟩;have:j ≠ i:=fun e=>by subst e;have:=iE n1 q hi rfl;grind
    grind
  ·rintro(q | ⟨j,q⟩)
   ·grind
   ·obtain⟨q1,q2⟩:=mem_filter.1 q;refine⟨.inr ⟨j,q1⟩,fun e=>?_⟩;subst e;have:=iE n2 q1 hi rfl;grind
 ·obtain⟨k1,k2⟩:=t.kept x hx hx2;refine⟨fun q=>?_,k2⟩;rcases q with q | q
  all_goals grind
 ·rcases hx with q | q
  ·exact t.old x q
  grind
def ye (P:Program) (ops:Array Oper) (st:Ag T) (F:Fr) (a:Act) (p:Nat×Nat):Prop:=
 ∃ o d x arr Tt,ops[p.1]? =some o/\x6 o=true/\o.dst=some d/\z8 P st o=some x/\AeE x arr Tt/\F.w0.heap[p.2]? =some (.cells arr Tt (0,0))/\ ¬F.old p.2/\a.tmps.getD d Go.undef=iD x p.2
theorem ye.move {P:Program} {ops:Array Oper} {st d_:Ag T} {F:Fr} {a a':Act} {p:Nat×Nat} (h:ye P ops st F a p) (ha: ∀ d o,ops[p.1]? =some o->o.dst=some d->a'.tmps.getD d Go.undef=a.tmps.getD d Go.undef):ye P ops d_ F a' p:=by obtain⟨o,d,x,arr,Tt,h1,h2,h3,h4,h5,h6,h7,h8⟩:=h;exact⟨o,d,x,arr,Tt,h1,h2,h3,by rw [Uf h2 (d_:=st)];exact h4,h5,h6,h7,by rw [ha d o h1 h3];exact h8⟩
theorem AgR {P:Program} {ops:Array Oper} {st:Ag T} {F:Fr} {a:Act} {p:Nat×Nat} (h:ye P ops st F a p) {o:Oper} (ho:ops[p.1]? =some o):DL o=0:=by obtain⟨o',_,_,_,_,h1,h2,_⟩:=h;simp_all [N7]
theorem Hj {ops:Array Oper} (h:Y6 ops=true) {i j:Nat} {o o':Oper} {d e:Nat} (hi:ops[i]? =some o) (hj:ops[j]? =some o') (hne:i ≠ j) (hd:o.dst=some d) (he:o'.dst=some e):d ≠ e:=by
 simp only [Y6,all_eq_true,mem_range]at h;have:=h i (Array.getElem?_eq_some_iff.1 hi).1 j (Array.getElem?_eq_some_iff.1 hj).1;simp only [hi,hj,hd,he,or_eq_true,beq_eq,not_eq_true']at this;rcases this with q | q
 ·grind
 ·intro e';simp_all
def unv (n:Nat) (v:List Bool):List Nat:=(List.range n).filter fun k=> !bv v k
theorem yf: ∀ {l l':List Nat},l.Nodup->(∀ x∈l,x∈l')->l.length<=l'.length
 | [],_,_,_=>Nat.zero_le _
 | a::l,l',h,hs=>by obtain⟨h1,h2⟩:=nodup_cons.1 h;have ha:=hs a (by simp);have:=yf (l:=l) (l':=l'.erase a) h2 (by grind);grind
theorem AeG (n:Nat) (v:List Bool):(unv n v).Nodup :=List.Sublist.nodup filter_sublist List.nodup_range
theorem Xa {n:Nat} {v:List Bool} {i:Nat} (hv:v.length=n) (hi:i<n) (hu:bv v i=false):(unv n (v.set i true)).length +1<=(unv n v).length :=by
 have:=yf (l:=i::unv n (v.set i true)) (l':=unv n v) (nodup_cons.2 ⟨fun h=>?_,AeG _ _⟩) fun x hx=>?_
 ·grind
 ·have:=(mem_filter.1 h).2;grind [De]
 ·rcases mem_cons.1 hx with rfl | hx
  ·exact mem_filter.2 ⟨by simpa using hi,by rw [hu];rfl⟩
  ·obtain⟨h1,h2⟩:=mem_filter.1 hx;rw [De (by omega)]at h2;exact mem_filter.2 ⟨h1,by simp only [not_eq_true',or_eq_false_iff]at h2 ⊢;exact h2.2⟩
section
variable {H:Az T} {P:Program} {I:World->Prop} {Γ:List (CE T P I)} {rec:uZ T} {st:Ag T} {ops:Array Oper} {pr:List (List Nat)} {lz:List Nat} {F0:Fr}
theorem AeH (aci:lV P I rec) (hw:AK H st) {o:Oper} {h:HA} {R':Type} {K:Ag T->Option R'} {r:R'} (hr:opR Γ rec ops o st h R' K=some r) {PK:St->Prop}
 (hK: ∀ H' d_,Nx H st H' d_->K d_=some r->PK d_.toSt):dG P I ops o st.toSt (fun s=> ∃ s',Wk s s'/\PK s'):=by
 have refl: ∀ s:St,Wk s s:=fun s=>Wk.less (CH.refl s);unfold opR at hr;split at hr
 ·obtain⟨d_,⟨⟨H1,n1⟩,_,w1⟩,hr⟩:=gZ hw o R' _ r hr;grind
 ·obtain⟨d_,⟨⟨H1,n1⟩,_,w1⟩,hr⟩:=sK hw o _ R' _ r hr;grind
 ·obtain⟨g1,g2⟩:=RI (PK:=fun s=> ∃ s',Wk s s'/\PK s') aci hw hr fun H' s n _ q=>⟨_,refl _,hK H' s n q⟩;simp only [dG,g1];exact .inl g2
 ·rename_i sh h;unfold jn at hr;obtain⟨g1,g2⟩:=RI (PK:=fun s=> ∃ s',Wk s s'/\PK s') aci hw hr fun H' s n _ q=>by
   split at q
   ·rename_i v hg;dsimp only at q;split at q
    ·rename_i s' hi;obtain⟨H2,n2⟩:=HV.afO hw (Eq sh.ts v) hi;grind [HV.ae6]
    ·cases q
   ·cases q
  simp only [dG,g1];exact .inl g2
 ·cases hr
theorem AgS {o:Oper} (hb:yb o=true) {s:St} (h1:(ef P st.toSt o).1) (h2:CH (ef P st.toSt o).2 s) {F:Fr} {a:Act} {w:World} {G:AJ} (hR:R F st.toSt a w G) {Q:Exit->Act->World->Prop}:
 o.wp P a w (fun a' w'=>CY w w'/\ ∃ G',R F s a' w' G') Q:=by
 unfold yb at hb;split at hb
 ·rename_i t len ps d hop hg hd;obtain⟨dst,op,ty,pos,aft,gd⟩:=o;simp only at hop hg hd;subst hop hg hd;have h1':(Bf P st.toSt d t len ps.toList).1:=h1;have h2':CH (Bf P st.toSt d t len ps.toList).2 s:=h2;obtain⟨r,w',G',q1,q2⟩:=Kl hR h1';have:=TU hR h1' q1;unfold Oper.wp;have J_:(execOp a.eval ⟨some d, .buildSlice t len ps,ty,pos,aft,none⟩).run P w= .ok (.value r) w':=by simp [execOp,q1]
  rw [J_];exact⟨this,G',q2.less h2'⟩
 ·cases hb
structure Fy (P:Program) (ops:Array Oper) (pr:List (List Nat)) (F0:Fr) (v:List Bool) (st:Ag T) (m:Nat) (L:List Bool) (D:List (Nat×Nat)) (F:Fr) (a:Act) (w:World) (G:AJ):Prop where
 hv:v.length=ops.size
 hL:L.length=ops.size
 hb: ∀ k,bv L k=(bv v k||D.any fun p=>p.1==k)
 hdc:xq pr L.toArray
 n1:(D.map (·.1)).Nodup
 n2:(D.map (·.2)).Nodup
 hD: ∀ p∈D,p.1<ops.size/\bv v p.1=false/\ye P ops st F a p
 ht:Kv F0 F D
 hc:(unv ops.size v).length <=m+D.length
 hR:R F st.toSt a w G
structure Fx (P:Program) (ops:Array Oper) (pr:List (List Nat)) (lz:List Nat) (F0:Fr) (v:List Bool) (st:Ag T) (m:Nat) (L:List Bool) (D:List (Nat×Nat)) (F:Fr) (a:Act) (w:World) (G:AJ):Prop extends Fy P ops pr F0 v st m L D F a w G where
 hS:bJ P ops pr lz L.toArray a w
variable {v L:List Bool} {m:Nat} {D:List (Nat×Nat)} {F:Fr} {a:Act} {w:World} {G:AJ}
theorem O5 {D:List (Nat×Nat)} {k:Nat}:(D.any fun p=>p.1==k)=true↔ ∃ b,(k,b)∈D:=by grind
theorem Fx.pos (h:Fx P ops pr lz F0 v st m L D F a w G) {i:Nat} (hi:i<ops.size) (hu:bv v i=false) (hn: ∀ b,(i,b)∉D):1<=m:=by
 have:=yf (l:=i::D.map (·.1)) (l':=unv ops.size v) (nodup_cons.2 ⟨fun q=>?_,h.n1⟩) fun x hx=>?_
 ·have h2:=h.hc;grind
 ·grind
 ·rcases mem_cons.1 hx with rfl | hx
  ·exact mem_filter.2 ⟨by simpa using hi,by rw [hu];rfl⟩
  ·obtain⟨p,hp,rfl⟩:=mem_map.1 hx;obtain⟨h1,h2,_⟩:=h.hD p hp;exact mem_filter.2 ⟨by simpa using h1,by rw [h2];rfl⟩
theorem Fx.rdy (h:Fx P ops pr lz F0 v st m L D F a w G) {i:Nat} (hi:i<ops.size) (hr:RL ops v i=true) (hn: ∀ b,(i,b)∉D):i∈Region.ready .any ops L.toArray:=by rw [lY h.hL];simp only [RL,and_eq_true,not_eq_true',all_eq_true]at hr;refine mem_filter.2 ⟨by grind,?_⟩;simp only [RL,and_eq_true,not_eq_true',all_eq_true];refine⟨?_,fun x hx=>by rw [h.hb,hr.2 x hx];rfl⟩;rw [h.hb,hr.1,Bool.false_or];grind
theorem Fx.axM (hp:gM ops pr=true) (h:Fx P ops pr lz F0 v st m L D F a w G) {j:Nat} (hj:j∈Region.ready .any ops L.toArray):j<ops.size/\bv L j=false/\bv v j=false/\(∀ b,(j,b)∉D)/\ ∀ x∈pr.getD j [],bv L x=true:=by
 obtain⟨h1,h2,h3⟩:=FW hp h.hdc hj;have h4:bv L j=false:=by grind [Gq]
 have h5:=h4;rw [h.hb,or_eq_false_iff]at h5;refine⟨h1,h4,h5.1,fun b hb=>?_,fun x hx=>by rw [<-Gq];exact h3 x hx⟩;have:=O5.2 ⟨b,hb⟩;rw [h5.2]at this;cases this
theorem R.aq1 {st:St} (h:R F st a w G) {d:Nat} {u:Value} (hu:Ad w G (st.tm.getD d .undef) u):R F st (a.put (some d) u) w G:=by
 have:=h.put (d:=some d) hu;have e:st.put (some d) (st.tm.getD d .undef)=st:=by simp only [St.put];congr 1;apply List.ext_getElem?;grind
 grind
theorem Fy.up1 (hst:TT ops pr=true) (hdn:Y6 ops=true) (hlz:Pu ops lz=true) (hw:AK H st) {pd:List Pw} (hpd: ∀ q∈pd,V8 P ops lz H st.nx q) (hck:VG ops pr lz v pd st=true) (h:Fy P ops pr F0 v st m L D F a w G) {a':Act} (hu:Up1 P ops pr lz L.toArray w a a'):Fy P ops pr F0 v st m L D F a' w G:=by
 obtain⟨p,o,d,u,h1,h2,h3,h4,h5,h6,rfl⟩:=hu;obtain⟨k1,k2⟩:=I5 hlz h1 h2;have hcN:NX ops p=1:=by grind [NX]
 have nmk: ∀ q,(p,q)∉D:=fun q hq=>by obtain⟨_,_,o',_,_,_,_,r1,r2,_⟩:=h.hD _ hq;simp_all [N7]
 have hvp:bv v p=true:=by rw [Gq,h.hb,or_eq_true]at h4;grind
 simp only [VG,all_eq_true,or_eq_true,not_eq_true']at hck;rcases hck p h1 with q | q | q
 ·grind
 ·exfalso;refine h5 ?_;simp only [ya,any_eq_true,mem_range,and_eq_true,beq_eq,Fg]at q;obtain⟨k,_,k1,k2,k3⟩:=q;exact⟨k,by rw [Gq,h.hb,k1];rfl,k2,k3⟩
 ·simp only [any_eq_true,and_eq_true,beq_eq]at q;obtain⟨q0,hq0,e0,hok⟩:=q;subst e0;obtain⟨r1,x,_,r2,r3⟩:=W9 hw (hpd q0 hq0) hok h2 h.hR;rw [h3]at r1;injection r1 with r1;subst r1;rw [r3 w (CY.refl w)]at h6;have hxu:x=u:=by grind
  subst hxu;exact {h with
   hD:=fun p' hp'=>by obtain⟨s1,s2,s3⟩:=h.hD p' hp';have hne:p'.1 ≠ q0.i:=(by grind);refine⟨s1,s2,s3.move fun d' o' ho' hd'=>?_⟩;exact Em (by grind)
   hR:=h.hR.aq1 r2}
theorem Fx.ups (hst:TT ops pr=true) (hdn:Y6 ops=true) (hlz:Pu ops lz=true) (hw:AK H st) {pd:List Pw} (hpd: ∀ q∈pd,V8 P ops lz H st.nx q) (hck:VG ops pr lz v pd st=true) (h:Fx P ops pr lz F0 v st m L D F a w G) {a':Act} (hu:Ups P ops pr lz L.toArray w a a'):Fx P ops pr lz F0 v st m L D F a' w G:=by
 induction hu with
 | refl=>exact h
 | step _ h1 ih=>exact {toFy:=ih.toFy.up1 hst hdn hlz hw hpd hck h1,hS:=ih.hS.up1 hst hlz h1}
theorem Y9 {il:Hl} {pd:List Pw} {R':Type} {K:Ag T->Option R'} {r:R'}: ∀ {n:Nat},LP Γ rec ops pr lz il n v pd st R' K=some r->VG ops pr lz v pd st=true
 | 0,h=>by grind [LP]
 | n+1,h=>by grind [LP]
theorem BY (L:List Bool) (i:Nat):L.toArray.setIfInBounds i true=(L.set i true).toArray :=by simp
theorem Fx.make (hst:TT ops pr=true) (hdn:Y6 ops=true) (hlz:Pu ops lz=true) {pd:List Pw} (hpd: ∀ q∈pd,V8 P ops lz H st.nx q) (hck:VG ops pr lz v pd st=true) (hi0:xX F0) (hw:AK H st) (hma:Y7 P ops st=true) (hun:unM ops v st=true) (h:Fx P ops pr lz F0 v st (m+1) L D F a w G) {j:Nat} (hj:j∈Region.ready .any ops L.toArray) (hm:pV ops j=true) {Q:Exit->Act->World->Prop}
 (hK: ∀ L D F a w' G,Fx P ops pr lz F0 v st m L D F a w' G->(j,w.heap.size)∈D->D1 P ops Q pr lz m L.toArray a w'):
 wpOp P ops Q j (fun a' w'=> ∀ a'',Ups P ops pr lz (L.toArray.setIfInBounds j true) w' a' a''->bJ P ops pr lz (L.toArray.setIfInBounds j true) a'' w'/\D1 P ops Q pr lz m (L.toArray.setIfInBounds j true) a'' w') a w:=by
 obtain⟨hns,hp,ae3⟩:=He hst;obtain⟨hjl,hju,hjv,hjD,_⟩:=h.axM hp hj;unfold pV at hm;have hoj:ops[j]? =some ops[j]:=(by grind);generalize ops[j]=o at hoj;rw [hoj]at hm;simp only at hm;obtain⟨hg,⟨d,hd⟩,hc⟩:=N7 hm;obtain⟨x,hx⟩: ∃ x,z8 P st o=some x:=by simp only [Y7,all_eq_true,or_eq_true,not_eq_true']at hma;grind [Option.isSome_iff_exists]
 have hud:st.get d= .u /\d<st.m:=by simp only [unM,all_eq_true,mem_range,or_eq_true]at hun;have:=hun j hjl;rw [hjv,hoj]at this;simp only [hm,hd,Bool.not_true,Bool.false_or,and_eq_true,blt_eq]at this;grind [isU]
 obtain⟨arr,Tt,J_,hxo⟩:=Abl hw hx h.hR;have hsz:a.tmps.size=st.m:=by rw [h.hR.size];exact Bt _ _
 refine pB hst hlz hoj hc h.hdc hj h.hS (K:=fun a' w'=>CY w w'/\ ∃ D' F' G',Fy P ops pr F0 v st m (L.set j true) D' F' a' w' G'/\(j,w.heap.size)∈D') ?_ ?_ ?_ ?_
 ·rw [FQ hg,if_pos rfl];refine AO J_ ?_;rw [hd];refine⟨Jj _ _,?_⟩;have hsm:=Jj w (.cells arr Tt);have t':=h.ht.take h.hR (Ki w (.cells arr Tt)) hsm j;obtain⟨G1,hR1⟩:=h.hR.taken (Ki w (.cells arr Tt)) hsm (b:=w.heap.size) rfl (by simp [Ji]) (t'.ayD hi0 fun x hx hx2=>(t'.kept x hx hx2).1) (d:=d) (v:=iD x w.heap.size) (by rw [st.abF,hud.1];simp only [DV.toV]);refine⟨(j,w.heap.size)::D,_,G1,⟨h.hv,by simpa using h.hL,fun k=>?_,by rw [<-BY];exact h.hdc.set hp hj,?_,?_,fun p hp'=>?_,t',?_,hR1⟩,List.mem_cons_self⟩
  ·rw [De (by rw [h.hL];exact hjl),h.hb,List.any_cons];grind
  ·rw [map_cons];refine nodup_cons.2 ⟨fun q=>?_,h.n1⟩;grind
  ·rw [map_cons];refine nodup_cons.2 ⟨fun q=>?_,h.n2⟩;obtain⟨p,hp',e⟩:=mem_map.1 q;have e:p.2=w.heap.size:=e;have hav:F.av p.2:=(h.ht.av _).2 (.inr ⟨p.1,hp'⟩);have:=h.hR.abi _ hav;have:=h.hR.L_;omega
  ·rcases mem_cons.1 hp' with rfl | hp'
   ·refine⟨hjl,hjv,o,d,x,arr,Tt,hoj,hm,hd,hx,hxo,heap_alloc_new w _,fun⟨i,hi⟩=>?_,?_⟩
    ·have:=h.hR.lt i _ hi;omega
    simp_all [Act.put]
   ·obtain⟨q1,q2,o',d',x',abN,Tt',r1,r2,r3,r4,r5,r6,r7,r8⟩:=h.hD p hp';have hav:F.av p.2:=(h.ht.av _).2 (.inr ⟨p.1,hp'⟩);refine⟨q1,q2,o',d',x',abN,Tt',r1,r2,r3,r4,r5,?_,fun⟨i,hi⟩=>h.hR.unnamed hav i hi,?_⟩
    ·show (w.alloc (.cells arr Tt)).heap[p.2]? =_;have hlt:=h.hR.abi _ hav;rw [hsm.block p.2 (lt_of_lt_of_le hlt h.hR.L_),h.hR.ext p.2 hlt r7];exact r6
    ·have hne:p.1 ≠ j:=(by grind);rw [<-r8];exact Em (x:=some d) (fun e he=>by injection he with he;subst he;exact Hj hdn hoj r1 (Ne.symm hne) hd r3)
  ·have:=h.hc;grind
 ·intro a' w' ⟨hsm,_⟩ p op hop hcp hpl hpf he1 he2 hW d hd;obtain⟨u,m1,m2⟩:=hW d hd;refine⟨u,by grind,fun w1 hw1=>?_⟩;have h1:=hw1.resolve_left (by rw [hcp];omega);rw [he1 w1 (hsm.trans h1)];exact m2 w1 (.inr (hsm.trans h1))
 ·intro a' w' a'' ⟨hsm,D',F',G',hf,hj'⟩ hu;rw [BY]at hu;exact⟨hsm,D',F',G',hf.up1 hst hdn hlz hw hpd hck hu,hj'⟩
 ·intro a' w' ⟨hsm,D',F',G',hf,hj'⟩ _ hS';rw [BY]at hS' ⊢;exact hK _ D' F' a' w' G' {toFy:=hf,hS:=hS'} hj'
theorem Fx.az2 (hi0:xX F0) (hl0: ∀ x,F0.av x->x<F0.w0.heap.size) (hw:AK H st) (h:Fx P ops pr lz F0 v st m L D F a w G) {i b d:Nat} {o:Oper} {x:DX T} {s:Ag T} (hi:(i,b)∈D) (ho:ops[i]? =some o) (hd:o.dst=some d) (hx:z8 P st o=some x) (hs:st.new (d::st.pre) x=some s):
 ∃ G',Fx P ops pr lz F0 (v.set i true) (s.put (some d) (.c (.c (Y5 x (d::st.pre))))) m L (D.filter fun p=>p.1 != i) (F.ag0 b) a w G':=by
 obtain⟨hil,hiv,o',d',x',arr,Tt,r1,r2,r3,r4,r5,r6,r7,r8⟩:=h.hD _ hi;simp only at hil hiv r1 r6 r7 r8;rw [ho]at r1;injection r1 with r1;subst r1;rw [hd]at r3;injection r3 with r3;subst r3;rw [hx]at r4;injection r4 with r4;subst r4;have t':=h.ht.ag0 hi h.n1 h.n2 hl0;have hav:F.av b:=(h.ht.av _).2 (.inr ⟨i,hi⟩);have hh:w.heap[b]? =some (.cells arr Tt (0,0)):=by rw [h.hR.ext b (h.hR.abi b hav) r7];exact r6
 obtain⟨G',hR'⟩:=u7 hw r5 h.hR hav (t'.ayD hi0 fun x hx hx2=>(t'.kept x hx hx2).1) hh r8 hs;refine⟨G',⟨by simpa using h.hv,h.hL,fun k=>?_,h.hdc,List.Sublist.nodup (by grind [filter_sublist]) h.n1,List.Sublist.nodup (by grind [filter_sublist]) h.n2,fun p hp=>?_,t',?_,hR'⟩,h.hS⟩
 ·rw [h.hb,De (by rw [h.hv];exact hil)];by_cases hk:k=i
  ·grind
  ·have e1:(k==i)=false:=by grind
   rw [e1,Bool.false_or];congr 1;rw [Bool.eq_iff_iff,O5,O5];grind
 ·obtain⟨hp1,hp2⟩:=mem_filter.1 hp;have hne:p.1 ≠ i:=by grind
  obtain⟨q1,q2,o',d',x',abN,Tt',s1,s2,s3,s4,s5,s6,s7,s8⟩:=h.hD p hp1;refine⟨q1,by rw [De (by rw [h.hv];exact hil),q2];grind,o',d',x',abN,Tt',s1,s2,s3,by grind [Uf],s5,s6,fun q=>?_,s8⟩;rcases q with q | q
  ·exact s7 q
  ·have:p=(i,b):=iE h.n2 hp1 hi q;grind
 ·have h1:=Xa h.hv hil hiv;have h2:=h.hc;have h3:(D.filter fun p=>p.1 != i).length +1=D.length:=by
   have key: ∀ l:List (Nat×Nat),(l.map (·.1)).Nodup ->(i,b)∈l->(l.filter fun p=>p.1 != i).length +1=l.length:=by
    intro l;induction l with
    | nil=>grind
    | cons p l ih=>
      intro hn hm;rw [map_cons]at hn;obtain⟨n1,n2⟩:=nodup_cons.1 hn;rcases mem_cons.1 hm with e | hm
      ·grind [List.filter_eq_self]
      grind
   exact key D h.n1 hi
  omega
theorem pW {v:List Bool} {i:Nat} (h:x7 ops v=some i):i<ops.size/\RL ops v i=true:=by
 unfold x7 at h;split at h
 ·rename_i j hj;injection h with h;subst h;have:j∈(List.range ops.size).filter fun i=>RL ops v i&& !pV ops i:=by grind
  grind
 all_goals grind
theorem pX {v:List Bool} {i:Nat} (h:Ac5 ops v=some i):i<ops.size/\RL ops v i=true/\NX ops i ≠ 0:=by obtain⟨h1,h2⟩:=yd h;simp only [and_eq_true,not_eq_true']at h2;exact⟨by grind,h2.1,fun e=>by simp_all⟩
theorem sM {v:List Bool} {i:Nat} (h:RL ops v i=true):bv v i=false:=by simp_all [RL]
theorem sN {i:Nat} (h:pV ops i=true):NX ops i=0:=by
 unfold pV at h;split at h
 all_goals simp_all [NX,N7]
theorem HY {P:Program} {st d_:Ag T} (h:Y7 P ops st=true):Y7 P ops d_=true:=by
 simp only [Y7,all_eq_true,or_eq_true,not_eq_true']at h ⊢;intro o ho;rcases h o ho with q | q
 ·exact .inl q
 ·cases hm:x6 o with
  | false=>grind
  | true=>grind [Uf]
theorem Fx.other (hp:gM ops pr=true) (h:Fx P ops pr lz F0 v st m L D F a w G) {i:Nat} (hok:AeF ops pr v i=true) (hiD: ∀ b,(i,b)∉D) {j:Nat} (hj:j∈Region.ready .any ops L.toArray) (hne:j ≠ i):pV ops j=true:=by
 obtain⟨h1,h2,h3,h4,h5⟩:=h.axM hp hj;simp only [AeF,all_eq_true,mem_range,or_eq_true,beq_eq,any_eq_true,and_eq_true,not_eq_true']at hok;rcases hok j h1 with q | q | q | ⟨x,hx,q1,q2⟩
 ·grind
 ·grind
 ·exact q
 ·exfalso;have:=h5 x hx;rw [h.hb,q1,Bool.false_or]at this;obtain⟨b,hb⟩:=O5.1 this;rcases q2 with q2 | q2
  ·obtain⟨_,_,o,d,y,arr,Tt,r1,r2,_⟩:=h.hD _ hb;grind [pV]
  grind
theorem RM (hst:TT ops pr=true) (hdn:Y6 ops=true) (hlz:Pu ops lz=true) (aci:lV P I rec) (il:Hl) (hI0:F0.I=I) (hi0:xX F0) (hd0: ∀ x,F0.old x-> ¬F0.av x) (hl0: ∀ x,F0.av x->x<F0.w0.heap.size) {R':Type} {K:Ag T->Option R'} {r:R'} {PK:St->Prop}:
 ∀ (n:Nat) (v:List Bool) (pd:List Pw) (st:Ag T) (H:Az T),AK H st->(∀ q∈pd,V8 P ops lz H st.nx q)->Y7 P ops st=true->LP Γ rec ops pr lz il n v pd st R' K=some r->(∀ H' d_,Nx H st H' d_->K d_=some r->PK d_.toSt)->
 ∀ (m:Nat) (L:List Bool) (D:List (Nat×Nat)) (F:Fr) (a:Act) (w:World) (G:AJ),Fx P ops pr lz F0 v st m L D F a w G->D1 P ops (fun e a' w'=>e= .normal /\ ∃ s G',PK s/\R F0 s a' w' G') pr lz m L.toArray a w
 | 0,v,pd,st,H,hw,hpd,hma,hr,hK,m,L,D,F,a,w,G,h=>by
   simp only [LP]at hr;split at hr
   ·cases hr
   split at hr
   ·rename_i aiN;simp only [all_eq_true,mem_range]at aiN;have hD:D=[]:=by
     cases D with
     | nil=>rfl
     | cons p D=>
       obtain⟨q1,q2,_⟩:=h.hD p (by simp);grind
    subst hD;obtain⟨s,⟨⟨H1,n1⟩,_,w1⟩,hr⟩:=Gp ops.size il hw R' _ r hr;obtain⟨G',hR'⟩:=w1 F a w G h.hR;have hQ:(fun(e:Exit) (a':Act) (w':World)=>e= .normal /\ ∃ s G',PK s/\R F0 s a' w' G') .normal a w:=⟨rfl,s.toSt,G',hK H1 s n1 hr,h.ht.back hi0 hd0 hl0 hR'⟩;have hrd:Region.ready .any ops L.toArray=[]:=by
     rw [lY h.hL,List.filter_eq_nil_iff];intro i hi;have:bv L i=true:=by rw [h.hb,aiN i (by simpa using hi)];rfl
     simp [RL,this]
    cases m with
    | zero=>exact⟨hrd,hQ⟩
    | succ m=>exact⟨fun _=>hQ,fun i hi=>by rw [hrd]at hi;cases hi⟩
   ·cases hr
 | n+1,v,pd,st,H,hw,hpd,hma,hr,hK,m,L,D,F,a,w,G,h=>by
   obtain⟨hns,hp,ae3⟩:=He hst;have hQ: ∀ c a w, ¬(fun(e:Exit) (a':Act) (w':World)=>e= .normal /\ ∃ s G',PK s/\R F0 s a' w' G') (.panic c) a w:=(by grind);have hI:F.I=I:=h.ht.apX.trans hI0;have hm:a.tmps.size=st.m:=by rw [h.hR.size];exact Bt _ _
   have hck:=Y9 hr;simp only [LP]at hr;split at hr
   ·cases hr
   split at hr
   ·rename_i i arI;obtain⟨hil,aoh,hcN⟩:=pX arI;have hiu:=sM aoh;have hiD: ∀ b,(i,b)∉D:=fun b hb=>by obtain⟨_,_,o,d,x,arr,Tt,r1,r2,_⟩:=h.hD _ hb;grind [sN,pV]
    have aog:=h.rdy hil aoh hiD;have amV:=h.hdc.set hp aog;rw [BY]at amV;obtain⟨m',rfl⟩: ∃ m',m=m'+1:=⟨m - 1,by have:=h.pos hil hiu hiD;omega⟩;split at hr
    ·rename_i o hi;have hc:DL o ≠ 0:=by grind [NX]
     obtain⟨hgd,d,hd⟩:=LG hc;have hdl:d∉o.looksAt ops:=(by grind);have ay2:=fun cs b=>Region.noSelect_spec hns i o cs b hi;have go: ∀ (d_:Ag T) (H':Az T) (pd':List Pw),yc o st=true->Nx H st H' d_->(∀ q∈pd',V8 P ops lz H' d_.nx q)->(∃ u G',(∀ w',(DL o=2\/CY w w')->(execOp a.eval o).run P w'= .ok (.value u) w')/\R F d_.toSt (a.put o.dst u) w G')->
      LP Γ rec ops pr lz il n (v.set i true) pd' d_ R' K=some r->D1 P ops (fun e a' w'=>e= .normal /\ ∃ s G',PK s/\R F0 s a' w' G') pr lz (m'+1) L.toArray a w:=by
      intro d_ H' pd' hlt hn ayZ ⟨u,G',J_,hR'⟩ hq;have hW:uE P (i∈lz) o (a.put o.dst u) w:=by intro d' hd';refine⟨_, .inr rfl,fun w' hw'=>?_⟩;rw [hd]at hd';injection hd' with hd';subst hd';rw [execOp_put o ay2 a o.dst u (fun e he=>by rw [hd]at he;injection he with he;exact he▸hdl),J_ w' hw',hd];simp_all [yc,Act.put]
      have hS':=bJ.take hst hi hc h.hdc aog h.hS hW;refine Ad2 (v:=u) hst hlz hi hc hQ m' L.toArray a w h.hdc aog ?_;rw [BY]at hS' ⊢;have hfx:Fx P ops pr lz F0 (v.set i true) d_ m' (L.set i true) D F (a.put o.dst u) w G':=?_
      ·intro a'' hu;have hf2:=hfx.ups hst hdn hlz hn.ok ayZ (Y9 hq) hu;exact⟨hf2.hS,RM hst hdn hlz aci il hI0 hi0 hd0 hl0 n (v.set i true) pd' d_ H' hn.ok ayZ (HY hma) hq (fun H'' s n' q=>hK H'' s (hn.trans n') q) m' _ D F _ w G' hf2⟩
      refine⟨⟨by simpa using h.hv,by simpa using h.hL,fun k=>?_,amV,h.n1,h.n2,fun p hp'=>?_,h.ht,?_,hR'⟩,hS'⟩
      ·rw [De (by rw [h.hL];exact hil),De (by rw [h.hv];exact hil),h.hb,Bool.or_assoc]
      ·obtain⟨q1,q2,q3⟩:=h.hD p hp';have hne:p.1 ≠ i:=(by grind);refine⟨q1,by rw [De (by rw [h.hv];exact hil),q2];grind,q3.move fun d' o' ho' hd'=>?_⟩;exact Em (fun e he=>Hj hdn hi ho' (Ne.symm hne) he hd')
      ·have h1:=Xa h.hv hil hiu;have h2:=h.hc;omega
     have pdx: ∀ {d_:Ag T} {H':Az T},Nx H st H' d_-> ∀ q∈pd,V8 P ops lz H' d_.nx q:=fun hn q hq=>(hpd q hq).nx hn;have axS: ∀ {B:St},Yld P I o st.toSt B->DL o ≠ 2-> ∃ u G',(∀ w',(DL o=2\/CY w w')->(execOp a.eval o).run P w'= .ok (.value u) w')/\R F B (a.put o.dst u) w G':=fun hy h2=>by obtain⟨u,G',q1,q2⟩:=hy F a w G hI h.hR;grind
     split at hr
     ·rename_i h2 hlt;have h2:DL o=2:=(by simp_all);have hsl:NW o.op=true:=by grind [DL]
      obtain⟨u,hu,hr⟩:=LF hw (LK _ _) o.op R' _ r hr;obtain⟨q1,q2,q3⟩:=hu rfl;obtain⟨H',hn⟩:=Ag.aaL hw o.dst q1;refine go _ H' pd hlt hn (pdx hn) ?_ hr;obtain⟨x,k1,k2⟩:=pA h.hR rfl hsl q2;change Ad w G (DQ P st.toSt true o.op).2 x at k1;rw [show (DQ P st.toSt true o.op).2=u.toV from q3]at k1;exact⟨x,G,fun w' _=>k2 w',by rw [Ag.r_];exact h.hR.put k1⟩
     ·rename_i h2 hlt;have h2:DL o ≠ 2:=fun e=>by simp_all
      split at hr
      ·obtain⟨d_,⟨⟨H',hn⟩,_,hy⟩,hr⟩:=sE (I:=I) hw R' _ r hr;grind
      ·obtain⟨d_,⟨⟨H',hn⟩,_,hy⟩,hr⟩:=xG (I:=I) hw R' _ r hr;grind
      ·cases hr
      ·rename_i hld;have aDg:Cb o.op= .rd :=by
        unfold AgO at hld;split at hld
        ·rename_i q;rw [q];rfl
        ·cases hld
       split at hr
       ·rename_i d_ q hq;obtain⟨H',hn,_,hy,hpq,_⟩:=Abk (I:=I) hw (lz:=lz) (fun q=>Fg.1 q) hi hq;grind
       ·obtain⟨u,hu,hr⟩:=LF hw (LK _ _) o.op R' _ r hr;obtain⟨H',hn⟩:=Ag.aaL hw o.dst (hu rfl).1;exact go _ H' pd hlt hn (pdx hn) (axS (xV hw aDg hu) h2) hr
     ·cases hr
    ·cases hr
   ·split at hr
    ·rename_i i arI;obtain⟨hil,aoh⟩:=pW arI;have hiu:=sM aoh;split at hr
     ·rename_i o hi hok;simp only [and_eq_true]at hok;obtain⟨hok,hun⟩:=hok;split at hr
      ·
       rename_i hc hmk;split at hr
       ·rename_i d x hd hx;split at hr
        ·rename_i s hs;have hxr: ∀ {m:Nat} {L:List Bool} {D:List (Nat×Nat)} {F:Fr} {a:Act} {w:World} {G:AJ} {b:Nat},Fx P ops pr lz F0 v st m L D F a w G->(i,b)∈D->D1 P ops (fun e a' w'=>e= .normal /\ ∃ s G',PK s/\R F0 s a' w' G') pr lz m L.toArray a w:=by intro m L D F a w G b h hib;obtain⟨G',hfx⟩:=h.az2 hi0 hl0 hw hib hi hd hx hs;obtain⟨_,_,_,_,_,_,_,r1,_,_,r4,r5,_⟩:=h.hD _ hib;simp only at r1;rw [hi]at r1;injection r1 with r1;subst r1;rw [hx]at r4;injection r4 with r4;subst r4;obtain⟨⟨H1,n1⟩,_,_⟩:=Ag.acW hw r5.ok hs;obtain⟨H2,n2⟩:=Ag.Th n1 (some d) (v:= .c (.c (Y5 x (d::st.pre)))) (by simp only [DV.ok,DC.ok]);exact RM hst hdn hlz aci il hI0 hi0 hd0 hl0 n (v.set i true) pd _ H2 n2.ok (fun q hq=>(hpd q hq).nx n2) (HY hma) hr (fun H'' s n' q=>hK H'' s (n2.trans n') q) m _ _ _ a w G' hfx
         have main: ∀ (m:Nat) (L:List Bool) (D:List (Nat×Nat)) (F:Fr) (a:Act) (w:World) (G:AJ),Fx P ops pr lz F0 v st m L D F a w G->D1 P ops (fun e a' w'=>e= .normal /\ ∃ s G',PK s/\R F0 s a' w' G') pr lz m L.toArray a w:=by
          intro m;induction m with
          | zero=>
            intro L D F a w G h;by_cases hiD: ∃ b,(i,b)∈D
            ·grind
            ·have:=h.pos hil hiu (by grind);omega
          | succ m ih=>
            intro L D F a w G h;by_cases hiD: ∃ b,(i,b)∈D
            ·grind
            ·have hiD: ∀ b,(i,b)∉D:=(by grind);refine⟨fun q=>(by have:=h.rdy hil aoh hiD;grind),fun j hj=>?_⟩;have hmj:pV ops j=true:=by
              by_cases hji:j=i
              ·grind [pV]
              ·exact h.other hp hok hiD hj hji
             exact h.make hst hdn hlz hpd hck hi0 hw hma hun hj hmj (by grind)
         grind
        ·cases hr
       ·cases hr
      ·rename_i hc hmk;have hiD: ∀ {m:Nat} {L:List Bool} {D:List (Nat×Nat)} {F:Fr} {a:Act} {w:World} {G:AJ},Fx P ops pr lz F0 v st m L D F a w G-> ∀ b,(i,b)∉D:=by intro m L D F a w G h b hb;obtain⟨_,_,o',_,_,_,_,r1,r2,_⟩:=h.hD _ hb;grind
       split at hr
       ·rename_i aL9;have hbs:yb o=true:=by grind
        have hg:o.guard=none:=by grind [yb]
        have main: ∀ (m:Nat) (L:List Bool) (D:List (Nat×Nat)) (F:Fr) (a:Act) (w:World) (G:AJ),Fx P ops pr lz F0 v st m L D F a w G->D1 P ops (fun e a' w'=>e= .normal /\ ∃ s G',PK s/\R F0 s a' w' G') pr lz m L.toArray a w:=by
         intro m;induction m with
         | zero=>
           intro L D F a w G h;have:=h.pos hil hiu (hiD h);omega
         | succ m ih=>
           intro L D F a w G h;have aog:=h.rdy hil aoh (hiD h);refine⟨(by grind),fun j hj=>?_⟩;by_cases hji:j=i
           ·subst hji;have hI:F.I=I:=h.ht.apX.trans hI0;have amV:=h.hdc.set hp aog;rw [BY]at amV;obtain⟨d_,⟨⟨H',hn⟩,e1,e2,_⟩,hq⟩:=W3 hw o R' _ r hr;have azl:=Y9 hq;refine pB hst hlz hi hc h.hdc hj h.hS (K:=fun a' w'=>CY w w'/\ ∃ G',R F d_.toSt a' w' G') ?_ ?_ ?_ ?_
            ·rw [FQ hg,if_pos rfl];exact AgS hbs e1 e2 h.hR
            ·intro a' w' ⟨hsm,_⟩ p op hop hcp hpl hpf he1 he2 hW d hd;obtain⟨u,m1,m2⟩:=hW d hd;refine⟨u,by grind,fun w1 hw1=>?_⟩;have h1:=hw1.resolve_left (by rw [hcp];omega);rw [he1 w1 (hsm.trans h1)];exact m2 w1 (.inr (hsm.trans h1))
            ·intro a' w' a'' ⟨hsm,G',hR'⟩ ⟨p,op,d,u,u1,hop,u3,hpl,hpf,u6,ea⟩;subst ea;refine⟨hsm,G',?_⟩;have hcp:=(I5 hlz u1 hop).1;have aLA:p ≠ j:=(by grind);have hvp:bv (v.set j true) p=true:=by
              rw [De (by rw [h.hv];exact hil)];rcases DB hpl with e | q
              ·grind
              ·rw [Gq,h.hb,or_eq_true]at q;rw [or_eq_true];rcases q with q | q
               ·exact .inr q
               ·exfalso;obtain⟨b,hb⟩:=O5.1 q;obtain⟨_,_,o',_,_,_,_,r1,r2,_⟩:=h.hD _ hb;simp_all [N7]
             simp only [VG,all_eq_true,or_eq_true,not_eq_true']at azl;rcases azl p u1 with q | q | q
             ·grind
             ·exfalso;refine hpf ?_;simp only [ya,any_eq_true,mem_range,and_eq_true,beq_eq,Fg]at q;obtain⟨k,_,k1,k2,k3⟩:=q;refine⟨k,?_,k2,k3⟩;rw [BY,Gq,De (by rw [h.hL];exact hil),h.hb];rw [De (by rw [h.hv];exact hil)]at k1;grind
             ·simp only [any_eq_true,and_eq_true,beq_eq]at q;obtain⟨q0,hq0,e0,arJ⟩:=q;subst e0;obtain⟨r1,x,_,r2,r3⟩:=W9 hn.ok ((hpd q0 hq0).nx hn) arJ hop hR';rw [u3]at r1;injection r1 with r1;subst r1;rw [r3 w' (CY.refl w')]at u6;have hxu:x=u:=by grind
              subst hxu;exact hR'.aq1 r2
            ·intro a' w' ⟨_,G',hR'⟩ ha' hS';rw [BY]at hS' ⊢;refine RM hst hdn hlz aci il hI0 hi0 hd0 hl0 n (v.set j true) pd d_ H' hn.ok (fun q hq=>(hpd q hq).nx hn) (HY hma) hq (fun H'' s n' q=>hK H'' s (hn.trans n') q) m _ D F a' w' G' ⟨⟨by simpa using h.hv,by simpa using h.hL,fun k=>?_,amV,h.n1,h.n2,fun p hp'=>?_,h.ht,?_,hR'⟩,hS'⟩
             ·rw [De (by rw [h.hL];exact hil),De (by rw [h.hv];exact hil),h.hb,Bool.or_assoc]
             ·obtain⟨q1,q2,q3⟩:=h.hD p hp';have hne:p.1 ≠ j:=(by grind);refine⟨q1,by rw [De (by rw [h.hv];exact hil),q2];grind,q3.move fun d' o' ho' hd'=>?_⟩;exact ha' d' (fun he=>Hj hdn hi ho' (Ne.symm hne) he hd' rfl) fun p2 op2 hp2 hc2 hd2=>by have hpp:p2 ≠ p.1:=(by grind [AgR]);exact Hj hdn hp2 ho' hpp hd2 hd' rfl
             ·have h1:=Xa h.hv hil hiu;have h2:=h.hc;omega
           ·exact h.make hst hdn hlz hpd hck hi0 hw hma hun hj (h.other hp hok (hiD h) hj hji) (by grind)
        grind
       ·skip;have main: ∀ (m:Nat) (L:List Bool) (D:List (Nat×Nat)) (F:Fr) (a:Act) (w:World) (G:AJ),Fx P ops pr lz F0 v st m L D F a w G->D1 P ops (fun e a' w'=>e= .normal /\ ∃ s G',PK s/\R F0 s a' w' G') pr lz m L.toArray a w:=by
         intro m;induction m with
         | zero=>
           intro L D F a w G h;have:=h.pos hil hiu (hiD h);omega
         | succ m ih=>
           intro L D F a w G h;have aog:=h.rdy hil aoh (hiD h);refine⟨(by grind),fun j hj=>?_⟩;by_cases hji:j=i
           ·subst hji;have hI:F.I=I:=h.ht.apX.trans hI0;have amV:=h.hdc.set hp aog;rw [BY]at amV;have hwp:=AeH aci hw (PK:=fun s=> ∃ H' d_,Nx H st H' d_/\Y8 ops pr (v.set j true) pd d_=true/\LP Γ rec ops pr lz il n (v.set j true) pd d_ R' K=some r/\s=d_.toSt) hr (by grind);have fresh: ∀ {d_:Ag T} {p:Nat} {op:Oper},Y8 ops pr (v.set j true) pd d_=true->ops[p]? =some op->DL op=1->L.toArray.getD p false=true-> ¬Frc ops pr p (L.toArray.setIfInBounds j true)-> ∃ q∈pd,q.i=p/\u5 d_ q=true:=by
             intro d_ p op hck hop hcp hpl hpf;simp only [Y8,all_eq_true,mem_range,or_eq_true,not_eq_true']at hck;have aDo:p<ops.size:=(by grind);have hLp:(L.set j true).toArray.getD p false=true:=by grind [getD_set_true]
             have aL6:NX ops p=1:=by grind [NX]
             have hvp:bv (v.set j true) p=true:=by
              rw [Gq,De (by rw [h.hL];exact hil),h.hb]at hLp;rw [De (by rw [h.hv];exact hil)];simp only [or_eq_true]at hLp ⊢;rcases hLp with q | q | q
              ·exact .inl q
              ·exact .inr q
              ·exfalso;obtain⟨b,hb⟩:=O5.1 q;obtain⟨_,_,o',_,_,_,_,r1,r2,_⟩:=h.hD _ hb;grind [sN,pV]
             rcases hck p aDo with q | q | q | q
             ·grind
             ·simp_all
             ·exfalso;refine hpf ?_;simp only [ya,any_eq_true,mem_range,and_eq_true,beq_eq,Fg]at q;obtain⟨k,_,k1,k2,k3⟩:=q;refine⟨k,?_,k2,k3⟩;rw [BY,Gq,De (by rw [h.hL];exact hil),h.hb];rw [De (by rw [h.hv];exact hil)]at k1;grind
             simp_all
            refine pB hst hlz hi hc h.hdc hj h.hS (K:=fun a' w'=> ∃ H' d_ G',Nx H st H' d_/\Y8 ops pr (v.set j true) pd d_=true/\LP Γ rec ops pr lz il n (v.set j true) pd d_ R' K=some r/\R F d_.toSt a' w' G') ?_ ?_ ?_ ?_
            ·have:=dX (Q:=fun e a' w'=>e= .normal /\ ∃ s G',PK s/\R F0 s a' w' G') h.hR (by rw [hI];exact hwp);have cv: ∀ a' w',ot F (fun s=> ∃ s',Wk s s'/\ ∃ H' d_,Nx H st H' d_/\Y8 ops pr (v.set j true) pd d_=true/\LP Γ rec ops pr lz il n (v.set j true) pd d_ R' K=some r/\s'=d_.toSt) a' w'-> ∃ H' d_ G',Nx H st H' d_/\Y8 ops pr (v.set j true) pd d_=true/\LP Γ rec ops pr lz il n (v.set j true) pd d_ R' K=some r/\R F d_.toSt a' w' G':=by rintro a' w' ⟨s,G1,⟨s',hwk,H',d_,k1,k2,k3,rfl⟩,hR1⟩;obtain⟨G2,hR2⟩:=hwk _ _ _ _ hR1;grind
             split at this
             ·rename_i hwt;rw [if_pos hwt];exact Oper.wp_mono cv this
             ·rename_i hwt;rw [if_neg hwt];exact cv _ _ this
            ·intro a' w' ⟨H',d_,G',hn,hck,_,hR'⟩ p op hop hcp hpl hpf _ _ _;obtain⟨q0,hq0,e0,arJ⟩:=fresh hck hop hcp hpl hpf;subst e0;exact xU hn.ok ((hpd q0 hq0).nx hn) arJ hop hcp hR'
            ·intro a' w' a'' ⟨H',d_,G',hn,hck,hq,hR'⟩ ⟨p,op,d,u,u1,hop,u3,hpl,hpf,u6,ea⟩;subst ea;have hcp:=(I5 hlz u1 hop).1;refine⟨H',d_,G',hn,hck,hq,?_⟩;have avT:L.toArray.getD p false=true:=by grind [DB]
             obtain⟨q0,hq0,e0,arJ⟩:=fresh hck hop hcp avT hpf;subst e0;obtain⟨r1,x,_,r2,r3⟩:=W9 hn.ok ((hpd q0 hq0).nx hn) arJ hop hR';rw [u3]at r1;injection r1 with r1;subst r1;rw [r3 w' (CY.refl w')]at u6;have hxu:x=u:=by grind
             subst hxu;exact hR'.aq1 r2
            ·intro a' w' ⟨H',d_,G',hn,_,hq,hR'⟩ ha' hS';rw [BY]at hS' ⊢;refine RM hst hdn hlz aci il hI0 hi0 hd0 hl0 n (v.set j true) pd d_ H' hn.ok (fun q hq=>(hpd q hq).nx hn) (HY hma) hq (fun H'' s n' q=>hK H'' s (hn.trans n') q) m _ D F a' w' G' ⟨⟨by simpa using h.hv,by simpa using h.hL,fun k=>?_,amV,h.n1,h.n2,fun p hp'=>?_,h.ht,?_,hR'⟩,hS'⟩
             ·rw [De (by rw [h.hL];exact hil),De (by rw [h.hv];exact hil),h.hb,Bool.or_assoc]
             ·obtain⟨q1,q2,q3⟩:=h.hD p hp';have hne:p.1 ≠ j:=(by grind);refine⟨q1,by rw [De (by rw [h.hv];exact hil),q2];grind,q3.move fun d' o' ho' hd'=>?_⟩;exact ha' d' (fun he=>Hj hdn hi ho' (Ne.symm hne) he hd' rfl) fun p2 op2 hp2 hc2 hd2=>by have hpp:p2 ≠ p.1:=(by grind [AgR]);exact Hj hdn hp2 ho' hpp hd2 hd' rfl
             ·have h1:=Xa h.hv hil hiu;have h2:=h.hc;omega
           ·exact h.make hst hdn hlz hpd hck hi0 hw hma hun hj (h.other hp hok (hiD h) hj hji) (by grind)
        grind
      ·cases hr
     ·cases hr
    ·cases hr
def Ai1:HA->Bool
 | .q .lz =>true
 | _=>false
def Ai2 (ops:Array Oper) (i:Nat):Bool:=match ops[i]? with
 | some o=>match o.op with
   | .load _ (.tmp d)=>ops.toList.any fun q=>match q.op,q.dst with
     | .indexAddr ..,some e=>Nat.beq d e
     | _,_=>false
   | _=>false
 | none=>false
def yg (ops:Array Oper) (il:Hl):List Nat:=match (List.range ops.size).any fun i=>match LO il i with
    | .c _=>true
    | .j .. =>true
    | _=>false with
 | true=>(List.range ops.size).filter fun i=>Pu ops [i]&& !Ai2 ops i
 | false=>(List.range ops.size).filter fun i=>Ai1 (LO il i)&&Pu ops [i]
theorem yh {ops:Array Oper} {il:Hl}:Pu ops (yg ops il)=true:=by
 unfold yg;split
 ·grind [Pu]
 ·unfold Pu;grind
def AeI {P:Program} {I:World->Prop} (Γ:List (CE T P I)) (rec:uZ T) (ops:Array Oper) (il:Hl) (pr:List (List Nat)) (st:Ag T) (R:Type) (K:Ag T->Option R):Option R:=match TT ops pr&&(Y6 ops&&Y7 P ops st)with
 | true=>LP Γ rec ops pr (yg ops il) il ops.size (List.replicate ops.size false) [] (u9 ops.toList st) R K
 | false=>none
theorem iF: ∀ (l:List Oper) {H:Az T} {st:Ag T},AK H st->(∃ H',Nx H st H' (u9 l st))/\Wk st.toSt (u9 l st).toSt
 | [],H,st,hw=>⟨⟨H,Nx.refl hw⟩,Wk.less (CH.refl _)⟩
 | o::r,H,st,hw=>by
   unfold u9;split
   ·obtain⟨H1,n1⟩:=Ag.aaL hw o.dst (v:= .u) (by simp only [DV.ok]);obtain⟨⟨H2,n2⟩,w2⟩:=iF r n1.ok;refine⟨⟨H2,n1.trans n2⟩,Wk.trans ?_ w2⟩;intro F a w G hR;refine⟨G,?_⟩;rw [Ag.r_];cases hd:o.dst with
    | none=>exact hR
    | some d=>exact hR.agm (by simp only [DV.toV,Ad])
   ·exact iF r hw
theorem Abn (acx:P.follows .mixedOrders =true) (aci:lV P I rec) {il:Hl} {id:Nat} (hw:AK H st) {R':Type} {K:Ag T->Option R'} {r:R'} (hr:AeI Γ rec ops il pr st R' K=some r) {F:Fr} (hI:F.I=I) {PK:St->Prop} {Q:Exit->St->Prop} (hPK: ∀ s,PK s->Q .normal s)
 (hK: ∀ H' d_,Nx H st H' d_->K d_=some r->PK d_.toSt):Aq P F (.region id ops true) st.toSt Q:=by
 unfold AeI at hr;split at hr
 ·rename_i hst;simp only [and_eq_true]at hst;obtain⟨hst,hdn,hma⟩:=hst;obtain⟨⟨H1,n1⟩,w1⟩:=iF ops.toList hw;refine Aq.wk w1 ?_;intro a w G hR;have hR':=hR.same (w':={w with drawn:=w.drawn+1}) ⟨rfl,rfl,rfl⟩ ⟨le_refl _,fun _ _=>rfl⟩;have hz: ∀ k,bv (List.replicate ops.size false) k=false:=(by grind [bv]);have hz2: ∀ k,(List.replicate ops.size false).toArray.getD k false=false:=fun k=>by rw [Gq,hz]
  have hu:(unv ops.size (List.replicate ops.size false)).length <=ops.size:=by grind [unv]
  have key:=RM (pr:=pr) hst hdn yh aci il hI hR.inv hR.aaI hR.abi ops.size _ [] _ H1 n1.ok (by grind) (HY hma) hr (fun H' s n q=>hK H' s (n1.trans n) q) ops.size (List.replicate ops.size false) [] F a {w with drawn:=w.drawn+1} G
   (.mk ⟨(by simp),(by simp),(by grind),(fun k hk=>by rw [hz2]at hk;cases hk),List.nodup_nil,List.nodup_nil,(by grind),Kv.start F,(by grind),hR'⟩ (fun i o _ _ hl=>by rw [hz2]at hl;cases hl))
  have:=Yt _ _ _ _ key;have h2:=wp_region_any (id:=id) acx (by simpa using this);grind [Code.wp_mono]
 ·cases hr
end
end Go.PL
namespace Go.PL
open Go Go.RowKit
variable {T:Bl}
def ET (T:Bl):List (Nat×HV)->Type
 | []=>Empty
 | [x]=>RT T x.2.ts
 | x::y::r=>RT T x.2.ts⊕ET T (y::r)
def yi {α β:Type} (f:α->β):Option α->Option β
 | some x=>some (f x)
 | none=>none
def vd (st0 d_:Ag T) (k:Nat):(xs:List (Nat×HV))->Option (ET T xs)
 | []=>none
 | [x]=>match Nat.beq x.1 k with
   | true=>x.2.gen st0 d_
   | false=>none
 | x::y::r=>match Nat.beq x.1 k with
   | true=>yi Sum.inl (x.2.gen st0 d_)
   | false=>yi Sum.inr (vd st0 d_ k (y::r))
def fb {R:Type} (st0:Ag T) (K:Nat->Ag T->Option R):(xs:List (Nat×HV))->ET T xs->Option R
 | []=>fun o=>nomatch o
 | [x]=>fun v=>match x.2.inst st0 (Cw x.2.ts v)with
   | some s=>K x.1 s
   | none=>none
 | x::y::r=>Sum.elim (fun v=>match x.2.inst st0 (Cw x.2.ts v)with
   | some s=>K x.1 s
   | none=>none) (fb st0 K (y::r))
def pY:Nat->Exit
 | 0=> .ret
 | n+1=> .exit n
def O6:Exit->Option Nat
 | .ret =>some 0
 | .exit n=>some (n+1)
 | _=>none
theorem pZ {e:Exit} {k:Nat} (h:O6 e=some k):pY k=e:=by
 cases e<;>simp only [O6,injEq]at h<;>first
  | (subst h;rfl)
  | grind
theorem Ug {α β:Type} {f:α->β} {o:Option α} {y:β} (h:yi f o=some y): ∃ x,o=some x/\f x=y:=by
 cases o with
 | none=>cases h
 | some x=>injection h with h;grind
theorem sO {H H':Az T} {R:Type} {st0 d_:Ag T} {k:Nat} {K:Nat->Ag T->Option R} {r:R} (h0:AK H st0) (hN:Nx H st0 H' d_): ∀ {xs:List (Nat×HV)} {o:ET T xs},vd st0 d_ k xs=some o->fb st0 K xs o=some r->
 ∃ s H2,Wk d_.toSt s.toSt/\Nx H st0 H2 s/\K k s=some r
 | [],o,h,_=>by cases h
 | [x],o,h,he=>by
   simp only [vd]at h;split at h
   ·rename_i hb;have hb:=eq_of_beq_eq_true hb;subst hb;simp only [fb]at he;split at he
    ·rename_i s hi;obtain⟨H2,n2⟩:=HV.afO h0 (Eq _ _) hi;exact⟨s,H2,HV.ae6 h0 hN h hi,n2,he⟩
    ·cases he
   ·cases h
 | x::y::r',o,h,he=>by
   simp only [vd]at h;split at h
   ·rename_i hb;have hb:=eq_of_beq_eq_true hb;subst hb;obtain⟨v,h1,rfl⟩:=Ug h;simp only [fb,Sum.elim_inl]at he;split at he
    ·rename_i s hi;obtain⟨H2,n2⟩:=HV.afO h0 (Eq _ _) hi;grind [HV.ae6]
    ·cases he
   ·obtain⟨v,h1,rfl⟩:=Ug h;simp only [fb,Sum.elim_inr]at he;exact sO h0 hN h1 he
theorem ve {σ ρ:Type} {B:σ->Option (σ⊕ρ)} {n:Nat} {s:σ} {o:ρ} (h:PL.iter B n s=some o): ∃ z,B s=some z:=by
 cases n with
 | zero=>cases h
 | succ n=>
   simp only [PL.iter]at h;grind
section
variable {P:Program} {I:World->Prop}
def AeJ (Γ:List (CE T P I)) (rec:uZ T) (ops:Array Oper) (dr:Bool) (fz:List Ah) (ow:List (Ah×Nat×Ah×Nat)) (il:Hl) (st:Ag T) (R:Type) (K:Ag T->Option R):Option R:=
 match dr with
 | false=>Y4 Γ rec ops il ops.toList 0 (FF fz st) R fun s=>match iz ow s with
   | some s'=>K s'
   | none=>none
 | true=>match AiV il with
   | true=>Uc il 0 (FF fz st) R fun s0=>AeI Γ rec ops il (AgN ops) s0 R fun s=>match iz ow s with
     | some s'=>K s'
     | none=>none
   | false=>match Region.lexB .any ops with
     | true=>xw Γ ops ops.toList (FF fz st) R fun s=>match iz ow s with
       | some s'=>K s'
       | none=>none
     | false=>none
def AeK:Hn->List Ah×List (Ah×Nat×Ah×Nat)×Hl
 | .r fz ow il=>(fz,ow,il)
 | _=>([],[], .n)
def yj {R:Type} (N:Ag T->Option R) (K:Exit->Ag T->Option R) (e:Exit) (s:Ag T):Option R:=match e with
 | .normal =>N s
 | e=>K e s
def yk {R:Type} (j:Nat) (K:Exit->Ag T->Option R) (e:Exit) (s:Ag T):Option R:=match e with
 | .exit i=>match Nat.beq i j with
   | true=>K .normal s
   | false=>K (.exit i) s
 | e=>K e s
def PI {α:Type} (h:Hn) (o:Option α):Option α:=match h with
 | .x =>none
 | _=>o
theorem Es {α:Type} {h:Hn} {o:Option α} {x:α} (q:PI h o=some x):o=some x:=by grind [PI]
def KY (Γ:List (CE T P I)) (rec:uZ T):Code->Hn->Ag T->(R:Type)->(Exit->Ag T->Option R)->Option R
 | .skip,h,st,_,K=>PI h (K .normal st)
 | .ret,h,st,_,K=>PI h (K .ret st)
 | .exit j,h,st,_,K=>PI h (K (.exit j) st)
 | .label _,h,st,_,K=>PI h (K .normal st)
 | .scope c,h,st,R,K=>PI h (KY Γ rec c h st R fun e s=>match O6 e with
   | some _=>K e s
   | none=>match e with
     | .normal =>K .normal s
     | _=>none)
 | .block j c,h,st,R,K=>PI h (KY Γ rec c h st R (yk j K))
 | .cond c x y,h,st,R,K=>PI h (match st.ev c with
   | .c (.k .bool b)=>if(show Bool from b) then KY Γ rec x h.a st R K else KY Γ rec y h.b st R K
   | _=>none)
 | .seq a b,h,st,R,K=>match h with
   | .j sh ha hb=>jn (fun v:RT T sh.ts=>match sh.inst st (Cw sh.ts v)with
    | some s=>KY Γ rec b hb s R K
    | none=>none) (fun j=>KY Γ rec a ha st R (yj (fun s=>match sh.gen st s with
      | some v=>j v
      | none=>none) K))
   | .x =>none
   | h=>KY Γ rec a h.a st R (yj (fun s=>KY Γ rec b h.b s R K) K)
 | .region _ ops dr,h,st,R,K=>PI h (AeJ Γ rec ops dr (AeK h).1 (AeK h).2.1 (AeK h).2.2 st R (K .normal))
 | .loop c,h,st,R,K=>match h with
   | .l sh xs hb=>match sh.gen st st with
     | some v0=>(iter (fun v:RT T sh.ts=>match sh.inst st (Cw sh.ts v)with
      | some s=>KY Γ rec c hb s (RT T sh.ts⊕ET T xs) fun e s'=>match e with
        | .normal =>match sh.gen st s' with
          | some v'=>match sh.inst st (Cw sh.ts v')with
            | some _=>some (.inl v')
            | none=>none
          | none=>none
        | e=>match O6 e with
          | some k=>yi Sum.inr (vd st s' k xs)
          | none=>none
      | none=>none) FU v0).bind (fb st (fun k s=>K (pY k) s) xs)
     | none=>none
   | _=>none
 | _,_,_,_,_=>none
theorem Aq.wkQ {F:Fr} {c:Code} {st:St} {Q:Exit->St->Prop} (h:Aq P F c st (fun e s=> ∃ s',Wk s s'/\Q e s')):Aq P F c st Q:=fun a w G hR=>
 Code.wp_mono (fun _ _ _ ⟨_,G',⟨s',hwk,hq⟩,hR'⟩=>by obtain⟨G'',q⟩:=hwk _ _ _ _ hR';grind) (h a w G hR)
theorem Abo {Γ:List (CE T P I)} {rec:uZ T} (acx:P.follows .mixedOrders =true) (aci:lV P I rec) {ops:Array Oper} {id:Nat} {dr:Bool} {fz:List Ah} {ow:List (Ah×Nat×Ah×Nat)} {il:Hl} {st:Ag T} {H:Az T} (hw:AK H st) {R:Type} {K:Ag T->Option R} {r:R}
 (hr:AeJ Γ rec ops dr fz ow il st R K=some r) {F:Fr} (hI:F.I=I) {Q:Exit->St->Prop} (hK: ∀ H' d_,Nx H st H' d_->K d_=some r->Q .normal d_.toSt):Aq P F (.region id ops dr) st.toSt Q:=by
 obtain⟨⟨H1,n1⟩,w1⟩:=F2 (l:=fz) (Nx.refl hw);refine Aq.wk w1 (Aq.wkQ ?_);have fin: ∀ H' s,Nx H1 (FF fz st) H' s->(match iz ow s with | some s'=>K s' | none=>none)=some r-> ∃ s',Wk s.toSt s'/\Q .normal s':=by
  intro H' s n q;split at q
  ·rename_i s' hs;obtain⟨⟨H2,n2⟩,w2,_⟩:=Ub (n1.trans n) hs;grind
  ·cases q
 unfold AeJ at hr;split at hr
 ·refine Aq.asY ?_;rw [hI];exact sL aci il _ 0 _ H1 n1.ok R _ r hr (fun s=> ∃ s',Wk s s'/\Q .normal s') (by grind)
 ·split at hr
  ·obtain⟨s0,⟨⟨H0,n0⟩,_,w0⟩,hr⟩:=Gp 0 il n1.ok R _ r hr;exact Aq.wk w0 (Abn acx aci n0.ok hr hI (PK:=fun s=> ∃ s',Wk s s'/\Q .normal s') (fun _ h=>h) fun H' s n q=>fin H' s (n0.trans n) q)
  split at hr
  ·rename_i hl;refine Aq.asZ acx hl ?_;rw [hI];obtain⟨s,⟨⟨H2,n2⟩,_,w2⟩,hr⟩:=lE (Γ:=Γ) (ops:=ops) ops.toList (FF fz st) H1 n1.ok R _ r hr;grind
  ·cases hr
theorem Fs {Γ:List (CE T P I)} {rec:uZ T} (acx:P.follows .mixedOrders =true) (aci:lV P I rec): ∀ (c:Code) (h:Hn) (st:Ag T) (H:Az T) (R:Type) (K:Exit->Ag T->Option R) (r:R),AK H st->KY Γ rec c h st R K=some r->
 ∀ (F:Fr) (Q:Exit->St->Prop),F.I=I->(∀ H' e d_,Nx H st H' d_->K e d_=some r->Q e d_.toSt)->Aq P F c st.toSt Q
 | .skip,h,st,H,R,K,r,hw,hr,F,Q,hI,hK=>Aq.skip (hK H _ st (Nx.refl hw) (Es hr))
 | .ret,h,st,H,R,K,r,hw,hr,F,Q,hI,hK=>Aq.ret (hK H _ st (Nx.refl hw) (Es hr))
 | .exit j,h,st,H,R,K,r,hw,hr,F,Q,hI,hK=>Aq.exit (hK H _ st (Nx.refl hw) (Es hr))
 | .label j,h,st,H,R,K,r,hw,hr,F,Q,hI,hK=>Aq.label (hK H _ st (Nx.refl hw) (Es hr))
 | .scope c,h,st,H,R,K,r,hw,hr,F,Q,hI,hK=>by
   refine Aq.scope (Fs acx aci c h st H R _ r hw (Es hr) F _ hI fun H' e d_ n q=>?_);cases e<;>simp only [O6]at q<;>first
    | (cases q;done)
    | exact hK H' _ d_ n q
 | .block j c,h,st,H,R,K,r,hw,hr,F,Q,hI,hK=>by
   refine Aq.block (Fs acx aci c h st H R _ r hw (Es hr) F _ hI fun H' e d_ n q=>?_);cases e with
   | exit i=>
     simp only [yk]at q;simp only [Cc];split at q
     ·rename_i hb;rw [if_pos (eq_of_beq_eq_true hb)];grind
     ·rename_i hb;rw [if_neg (fun e=>by simp_all)];grind
   | _=>exact hK H' _ d_ n q
 | .cond c x y,h,st,H,R,K,r,hw,hr,F,Q,hI,hK=>by
   simp only [KY]at hr;replace hr:=Es hr;split at hr
   ·rename_i b hb;have hev:=st.acp c;rw [hb]at hev;refine Aq.cond (b:=b) hev (fun e=>?_) (fun e=>?_)
    ·rw [if_pos e]at hr;exact Fs acx aci x h.a st H R K r hw hr F Q hI hK
    ·rw [if_neg (by rw [show (show Bool from b)=b from rfl,e];simp)]at hr;exact Fs acx aci y h.b st H R K r hw hr F Q hI hK
   ·cases hr
 | .region id ops dr,h,st,H,R,K,r,hw,hr,F,Q,hI,hK=>by grind [KY,Abo,Es]
 | .seq a b,h,st,H,R,K,r,hw,hr,F,Q,hI,hK=>by
   simp only [KY]at hr;split at hr
   ·rename_i sh ha hb;unfold jn at hr;refine Sj (X:=RT T sh.ts) (fun v=>match sh.inst st (Cw sh.ts v)with | some s=>s.toSt | none=>st.toSt) (fun v=> ∃ s,sh.inst st (Cw sh.ts v)=some s/\KY Γ rec b hb s R K=some r) ?_ ?_
    ·refine Fs acx aci a ha st H R _ r hw hr F _ hI fun H' e d_ n q=>?_;cases e<;>grind [yj,Cr,HV.ae6]
    ·rintro v ⟨s,hi,q⟩;rw [hi];obtain⟨H2,n2⟩:=HV.afO hw (Eq _ _) hi;exact Fs acx aci b hb s H2 R K r n2.ok q F Q hI fun H' e d_ n' q'=>hK H' e d_ (n2.trans n') q'
   ·cases hr
   ·refine Aq.seq (Fs acx aci a _ st H R _ r hw hr F _ hI fun H' e d_ n q=>?_);cases e with
    | normal=>exact Fs acx aci b _ d_ H' R K r n.ok q F Q hI fun H'' e auZ n' q'=>hK H'' e auZ (n.trans n') q'
    | _=>exact hK H' _ d_ n q
 | .loop c,h,st,H,R,K,r,hw,hr,F,Q,hI,hK=>by
   simp only [KY]at hr;split at hr
   ·rename_i sh xs hb;split at hr
    ·rename_i v0 hg0;obtain⟨o,hi,hx⟩:=bS hr;have azd: ∃ s,sh.inst st (Cw sh.ts v0)=some s:=by obtain⟨z,hz⟩:=ve hi;grind
     obtain⟨s0,hs0⟩:=azd;refine It (fun v=>match sh.inst st (Cw sh.ts v)with | some s=>s.toSt | none=>st.toSt) hi ?_ fun v z hz ho=>?_
     ·rw [hs0];exact HV.ae6 hw (Nx.refl hw) hg0 hs0
     ·split at hz
      ·rename_i s hs;obtain⟨H2,n2⟩:=HV.afO hw (Eq _ _) hs;have aH3: ∀ (H':Az T) (e:Exit) (d_:Ag T) (k:Nat),Nx H2 s H' d_->O6 e=some k->yi Sum.inr (vd st d_ k xs)=some z-> ∃ s'',Wk d_.toSt s''/\Q e s'':=by intro H' e d_ k n he q;obtain⟨o',h1,h2⟩:=Ug q;have:=ho o' h2.symm;subst this;obtain⟨s'',H3,w3,n3,k3⟩:=sO (K:=fun k s=>K (pY k) s) hw (n2.trans n) h1 hx;grind [pZ]
       have main:=Fs acx aci c hb s H2 _ _ z n2.ok hz F (fun e s'=>match e with
        | .normal => ∃ v',z= .inl v'/\Wk s' (match sh.inst st (Cw sh.ts v')with | some s=>s.toSt | none=>st.toSt)
        | e=> ∃ s'',Wk s' s''/\Q e s'') hI fun H' e d_ n q=>by
          cases e with
          | normal=>
            simp only at q;split at q
            ·rename_i v' hg;split at q
             ·rename_i s1 hs1;injection q with q;refine⟨v',q.symm,?_⟩;rw [hs1];exact HV.ae6 hw (n2.trans n) hg hs1
             ·cases q
            ·cases q
          | ret=>grind
          | exit i=>grind
          | goto l=>cases q
          | panic ch=>cases q
          | outgrown=>cases q
       refine Aq.wkQ (main.mono fun e s' q=>?_);cases e with
       | normal=>exact⟨s',Wk.less (CH.refl _),q⟩
       | _=>exact q
      ·cases hz
    ·cases hr
   ·cases hr
 | .rangeFunc ..,h,st,H,R,K,r,hw,hr,F,Q,hI,hK=>by grind [KY]
 | .goto _,h,st,H,R,K,r,hw,hr,F,Q,hI,hK=>by grind [KY]
 | .refuse _,h,st,H,R,K,r,hw,hr,F,Q,hI,hK=>by grind [KY]
end
end Go.PL
namespace Go.PL
open Go Go.RowKit
variable {T:Bl}
def LR:(ts:List VT)->XS T ts->List (DV T)
 | [],_=>[]
 | t::ts,x=>PG t x.1::LR ts x.2
theorem Uh: ∀ (ts:List VT) (x:XS T ts),Be (LR ts x)=FX ts x
 | [],_=>by simp only [LR,Be,FX]
 | t::ts,x=>by simp only [LR,Be,FX,OY,Uh ts]
theorem Za {H:Az T} {n:Nat}: ∀ (ts:List VT) (x:XS T ts),CL H n (LR ts x)
 | [],_=>by simp only [LR,CL]
 | t::ts,x=>by simp only [LR,CL,Rz,Za ts,and_self]
def Zb (args:List (DV T)) (n:Nat):Ag T:=Gl 0 args ⟨n,[],[],[],[],0⟩
theorem fe {args:List (DV T)} {n:Nat} (ha: ∀ H:Az T,CL H 0 args): ∃ H,AK H (Zb args n):=by let H0:Az T:=⟨fun _=> .u,fun _=>⟨[],0, .box []⟩⟩;have h0:AK H0 (⟨n,[],[],[],[],0⟩:Ag T):=⟨fun _ _ _ hm=>by simp at hm,(by grind),(by grind),by simp⟩;obtain⟨H,hN⟩:=QC (i:=0) (Nx.refl h0) (ha H0);exact⟨H,hN.ok⟩
theorem VH {args:List (DV T)} {n:Nat} (hl:args.length<=n):(Zb args n).toSt =St.start (Be args) n:=by obtain⟨a,b,c,d⟩:=Mw args 0 (⟨n,[],[],[],[],0⟩:Ag T);unfold Zb;simp only [Ag.toSt,a,b,c,d,St.start,map_nil,List.flatMap_nil];rw [YK hl];intro j;rw [QD];simp only [Nat.zero_le,true_and,zero_add,Nat.sub_zero];rfl
section
variable {H:Az T} {P:Program} {I:World->Prop} {st:Ag T}
def AeL (P:Program) (st:Ag T) (t:VT) (x:ResultVar):M (En T t):= .Z_ (Vy P st x) fun v=>match gY st v with
 | some w=> .sm (xu t w)
 | none=> .no
def ff (P:Program) (st:Ag T):(ts:List VT)->List ResultVar->M (RT T ts)
 | [],[]=> .ret ()
 | [t],[x]=>AeL P st t x
 | t::u::ts,x::xs=> .Z_ (AeL P st t x) fun a=> .Z_ (ff P st (u::ts) xs) fun b=> .ret (a,b)
 | _,_=> .no
theorem vf (x:ResultVar) (s:St):Rh P s x=((Pq P s x).1,BC s (Pq P s x).2):=by cases x<;>rfl
theorem sP (hw:AK H st) (t:VT) (x:ResultVar):Yl (AeL P st t x) (fun r=>(Rh P st.toSt x).1/\(Rh P st.toSt x).2=Eo t r):=
 Yl.Z_ (JI hw x) fun v hv=>by
  obtain⟨a,b,c⟩:=hv;split
  ·rename_i w hs;refine Yl.sm fun r hr=>?_;rw [vf];exact⟨b,by simp only;rw [c,Vv hs,Yw hr]⟩
  ·exact Yl.no
theorem lZ (hw:AK H st): ∀ (ts:List VT) (xs:List ResultVar),Yl (ff P st ts xs) (fun r=>(FR P st.toSt xs).1/\(FR P st.toSt xs).2=Cl ts r/\xs.length=ts.length)
 | [],[]=>Yl.ret ⟨trivial,by simp only [FR,Cl],rfl⟩
 | [t],[x]=>(sP hw t x).mono fun r h=>⟨⟨h.1,trivial⟩,congrArg (fun z=>[z]) h.2,rfl⟩
 | t::u::ts,x::xs=>Yl.Z_ (sP hw t x) fun a ha=>Yl.Z_ (lZ hw (u::ts) xs) fun b hb=>Yl.ret (by
   simp_all [FR,Cl])
 | [],_::_=>Yl.no
 | [_],[]=>Yl.no
 | [_],_::_::_=>Yl.no
 | _::_::_,[]=>Yl.no
theorem AeM (hw:AK H st) {ts:List VT} {xs:List ResultVar}:Yl (ff P st ts xs) (fun r=>(D0 P st.toSt xs).1/\(D0 P st.toSt xs).2=IB ts r):=
 (lZ hw ts xs).mono fun r h=>by
  obtain⟨h1,h2,h3⟩:=h
  match ts,xs,r,h1,h2,h3 with
  | [],[],r,h1,h2,_=>grind [D0,IB,Cl]
  | [t],[x],r,h1,h2,_=>
    simp only [FR]at h1 h2;refine⟨h1.1,?_⟩;have:[(Rh P st.toSt x).2]=[Eo t r]:=h2;injection this
  | t::u::ts,x::y::xs,r,h1,h2,_=>grind [D0,IB]
  | [],_::_,_,_,_,h3=>simp at h3
  | [_],[],_,_,_,h3=>simp at h3
  | [_],_::_::_,_,_,_,h3=>simp at h3
  | _::_::_,[],_,_,_,h3=>simp at h3
  | _::_::_,[_],_,_,_,h3=>simp at h3
theorem VI: ∀ (ts:List VT) (x:RT T ts),B9 (Cl ts x)=true
 | [],_=>by simp only [Cl,B9]
 | [t],x=>by simp only [Cl,B9,Bool.and_true];exact Dd t x
 | t::u::ts,x=>by simp only [Cl,B9,Dd,VI (u::ts),Bool.and_self]
theorem fg: ∀ (ts:List VT) (x:RT T ts),(IB ts x).pure =true
 | [],_=>by simp only [IB,V.pure,B9]
 | [t],x=>Dd t x
 | t::u::ts,x=>by grind [IB,V.pure,VI]
def yl (Γ:List (CE T P I)):Nat->uZ T
 | 0=>fun _ _ _ _ _=>none
 | n+1=>fun R c h st K=>KY Γ (yl Γ n) c h st R K
theorem iG {Γ:List (CE T P I)} (acx:P.follows .mixedOrders =true): ∀ n,lV P I (yl Γ n)
 | 0=>fun _ _ _ _ _ _ _ _ hr=>by simp [yl]at hr
 | n+1=>fun R c h st H K r hw hr F Q hI hK=>Fs acx (iG acx n) c h st H R K r hw hr F Q hI hK
def AgT (P:Program) (rs:List VT) (xs:List ResultVar) (e:Exit) (st:Ag T):Option (RT T rs):=match e with
 | .normal =>ff P st rs xs _ some
 | .ret =>ff P st rs xs _ some
 | _=>none
def sQ (Γ:List (CE T P I)) (n:Nat) (fn:Func) (body:Code) (h:Hn) (ps rs:List VT) (x:XS T ps):Option (RT T rs):=
 match Nat.ble (LR ps x).length fn.ntmps with
 | true=>KY Γ (yl Γ n) body h (Zb (LR ps x) fn.ntmps) (RT T rs) (AgT P rs fn.results.toList)
 | false=>none
theorem AgU {Γ:List (CE T P I)} (aiK:Ik I) (acx:P.follows .mixedOrders =true) {n:Nat} {f:FuncId} {fn:Func} {body:Code} (hf:P.funcs[f]? =some fn) (hb:fn.body=some body) (abR:PL.ent P f=true) {h:Hn} {ps rs:List VT} {x:XS T ps} {r:RT T rs}
 (hr:sQ Γ n fn body h ps rs x=some r):CZ P I f (FX ps x) (· =IB rs r):=by
 unfold sQ at hr;split at hr
 ·rename_i hl;obtain⟨H,hw⟩:=fe (args:=LR ps x) (n:=fn.ntmps) (fun H=>Za ps x);refine CZ.of aiK abR hf hb fun F hI=>?_;rw [<-Uh, <-VH (by simp_all)];refine Fs acx (iG acx n) body h _ H _ _ r hw hr F _ hI fun H' e d_ n q=>?_;have fin:ff P d_ rs fn.results.toList _ some=some r->(D0 P d_.toSt fn.results.toList).1/\(D0 P d_.toSt fn.results.toList).2.pure =true/\(D0 P d_.toSt fn.results.toList).2=IB rs r:=by intro q;obtain⟨v,⟨h1,h2⟩,h3⟩:=AeM n.ok _ _ r q;grind [fg]
  cases e<;>simp only [AgT,rO]at q ⊢ <;>first
   | exact fin q
   | grind
 ·cases hr
def Ai3 (Γ:List (CE T P I)) (aiK:Ik I) (acx:P.follows .mixedOrders =true) (n:Nat) (f:FuncId) (fn:Func) (body:Code) (h:Hn) (ps rs:List VT) (run:XS T ps->Option (RT T rs)) (hf:P.funcs[f]? =some fn) (hb:fn.body=some body)
    (heq:run=sQ Γ n fn body h ps rs) (abR:PL.ent P f=true:=by kernel_rfl):CE T P I where
 f:=f
 ps:=ps
 rs:=rs
 run:=run
 ok:=fun x r q=>AgU (h:=h) aiK acx hf hb abR (by rw [<-heq];exact q)
end
end Go.PL
namespace Go.PL
theorem QL {a b:Prop} (h:a=b) (p:a):b:=h▸p
end Go.PL
namespace Go.PL
open Go Go.RowKit
structure GQ where
 den:Type
 inh:Inhabited den
 enc:den->List C
 ks:List Kd
def GQ.unit:GQ:=⟨Unit,⟨()⟩,fun _=>[],[]⟩
def RN:List (Nat×GQ)->Nat->GQ
 | [],_=> .unit
 | (k,r)::l,E=>match Nat.beq k E with
   | true=>r
   | false=>RN l E
structure Nl (R:Nat->GQ) where
 E:Nat
 un:(R E).den ->DK (fun E=>(R E).den) (R E).ks
 bd:DK (fun E=>(R E).den) (R E).ks ->(R E).den
 beq:(R E).den ->(R E).den ->Bool
 afT: ∀ y,un (bd y)=y
 abw: ∀ x,BD (fun E=>(R E).enc) (R E).ks (un x)=(R E).enc x
 alw: ∀ x y,beq x y=BS ((R E).enc x) ((R E).enc y)
def ma {R:Nat->GQ}:List (Nl R)->(E:Nat)->Option {e:Nl R // e.E=E}
 | [],_=>none
 | e::l,E=>match Nat.decEq e.E E with
   | .isTrue h=>some ⟨e,h⟩
   | .isFalse _=>ma l E
theorem FG {R:Nat->GQ}: ∀ {L1:List (Nl R)} {L0:List (Nat×GQ)} {E:Nat},L1.map (·.E)=L0.map (·.1)->ma L1 E=none->RN L0 E= .unit
 | [],[],_,_,_=>rfl
 | [],_::_,_,h,_=>by simp at h
 | _::_,[],_,h,_=>by simp at h
 | e::L1,(k,r)::L0,E,h,hf=>by
   simp only [map_cons,List.cons.injEq]at h;unfold ma at hf;split at hf
   ·cases hf
   ·rename_i hne _;have:Nat.beq k E=false:=by
     cases hb:Nat.beq k E with
     | false=>rfl
     | true=>exact absurd (h.1.trans (eq_of_beq_eq_true hb)) hne
    simp only [RN,this];exact FG h.2 hf
inductive ah5 (R:Nat->GQ) (E:Nat) where
 | some (e:Nl R) (h:e.E=E)
 | none (h:R E=GQ.unit)
def vg {R:Nat->GQ} (L1:List (Nl R)) (hn: ∀ E,ma L1 E=none->R E= .unit) (E:Nat):ah5 R E:=match h:ma L1 E with
 | some e=> .some e.1 e.2
 | none=> .none (hn E h)
section
variable {R:Nat->GQ} {E:Nat}
def ah5.un:ah5 R E->(R E).den ->DK (fun E=>(R E).den) (R E).ks
 | .some e h=>h▸e.un
 | .none h=>fun _=>h▸(():DK (fun E=>(R E).den) GQ.unit.ks)
def ah5.bd:ah5 R E->DK (fun E=>(R E).den) (R E).ks ->(R E).den
 | .some e h=>h▸e.bd
 | .none h=>fun _=>h▸(():GQ.unit.den)
def ah5.beq:ah5 R E->(R E).den ->(R E).den ->Bool
 | .some e h=>h▸e.beq
 | .none _=>fun _ _=>true
theorem ah5.afT (s:ah5 R E) (y:DK (fun E=>(R E).den) (R E).ks):s.un (s.bd y)=y:=by
 cases s with
 | some e h=>cases h;exact e.afT y
 | none h=>
   show h▸(():DK (fun E=>(R E).den) GQ.unit.ks)=y;have: ∀ (D:Nat->Type) (r:GQ) (h:r=GQ.unit) (y:DK D r.ks),h▸(():DK D GQ.unit.ks)=y:=by intro D r h y;subst h;rfl
   exact this _ _ h y
theorem ah5.abw (s:ah5 R E) (x:(R E).den):BD (fun E=>(R E).enc) (R E).ks (s.un x)=(R E).enc x:=by
 cases s with
 | some e h=>cases h;exact e.abw x
 | none h=>
   have: ∀ (r:GQ) (h:r=GQ.unit) (x:r.den) (z:DK (fun E=>(R E).den) r.ks),BD (fun E=>(R E).enc) r.ks z=r.enc x:=by intro r h x z;subst h;rfl
   grind
theorem ah5.alw (s:ah5 R E) (x y:(R E).den):s.beq x y=BS ((R E).enc x) ((R E).enc y):=by
 cases s with
 | some e h=>cases h;exact e.alw x y
 | none h=>
   show true=_;have: ∀ (r:GQ) (h:r=GQ.unit) (x y:r.den),true=BS (r.enc x) (r.enc y):=by intro r h x y;subst h;rfl
   grind
end
def AeN (L0:List (Nat×GQ)) (L1:List (Nl (RN L0))) (hk:L1.map (·.E)=L0.map (·.1)):Bl where
 den E:=(RN L0 E).den
 inh E:=(RN L0 E).inh
 enc E:=(RN L0 E).enc
 ks E:=(RN L0 E).ks
 un E:=(vg L1 (fun _ h=>FG hk h) E).un
 bd E:=(vg L1 (fun _ h=>FG hk h) E).bd
 beq E:=(vg L1 (fun _ h=>FG hk h) E).beq
 afT E:=(vg L1 (fun _ h=>FG hk h) E).afT
 abw E:=(vg L1 (fun _ h=>FG hk h) E).abw
 alw E:=(vg L1 (fun _ h=>FG hk h) E).alw
end Go.PL
set_option linter.all false
namespace Go.PL
open Go Go.RowKit
variable {T:Bl}
def p7 (st:Ag T) (id:Ah):Option ((E:Nat)×(Int×List (T.den E))):=match E9 id&& !C2 id with
 | false=>none
 | true=>match GP st.so id with
   | some e=>match e.x with
     | .deep E n l none=>some ⟨E,(n,l)⟩
     | _=>none
   | none=>none
theorem mb {st:Ag T} {id:Ah} {E:Nat} {n:Int} {l:List (T.den E)} (h:p7 st id=some ⟨E,(n,l)⟩):E9 id=true/\C2 id=false/\ ∃ e∈st.so,e.id=id/\e.x= .deep E n l none:=by
 unfold p7 at h;split at h
 ·cases h
 ·rename_i hd;simp only [and_eq_true,not_eq_true']at hd;split at h
  ·rename_i e he;split at h
   ·rename_i E' n' l' hx;injection h with h;injection h with h1 h2;subst h1;have h2:=eq_of_heq h2;grind [CM]
   ·cases h
  ·cases h
def ym (k:Kd) (c:DC T):M (OW T.den k×List Ah):= .Z_ (.sm (HN true k c)) fun x=> .ret (x,[])
def Abp (st:Ag T) (m:Nat) (k:Kd) (c:DC T):M (OW T.den k×List Ah):=match k with
 | .u_ E=>match m with
   | 1=>match Kp c with
     | some id=>match DA st id with
       | some ⟨E',l⟩=> .Z_ (.sm (YM E E' l)) fun l'=> .ret (l',[id])
       | none=> .no
     | none=> .no
   | 2=>match Kp c with
     | some id=>match p7 st id with
       | some ⟨E',(n,l)⟩=> .opt (A1 (n=(List.length l:Nat))) fun _=> .Z_ (.sm (YM E E' l)) fun l'=> .ret (l',[id])
       | none=> .no
     | none=> .no
   | _=>ym (.u_ E) c
 | k=>ym k c
def Abq (st:Ag T):List Nat->(ks:List Kd)->List (DC T)->M (DK T.den ks×List Ah)
 | m::ms,k::ks,c::cs=> .Z_ (Abp st m k c) fun a=> .Z_ (Abq st ms ks cs) fun b=> .ret ((a.1,b.1),a.2++b.2)
 | [],k::ks,c::cs=> .Z_ (ym k c) fun a=> .Z_ (Abq st [] ks cs) fun b=> .ret ((a.1,b.1),b.2)
 | _,[],[]=> .ret ((),[])
 | _,_,_=> .no
def p8 (st:Ag T) (m:List Nat):(t:VT)->DV T->M (En T t×List Ah)
 | .k kd,v=>match asC v with
   | some c=>Abp st (m.headD 0) kd c
   | none=> .no
 | .s E,v=>match asA v with
   | some cs=> .Z_ (Abq st m (T.ks E) cs) fun a=> .ret (T.bd E a.1,a.2)
   | none=> .no
 | .f _,_=> .no
def vh (P:Program) (st:Ag T):List (List Nat)->(ts:List VT)->List ResultVar->M (RT T ts×List Ah)
 | m::_,[t],[x]=> .Z_ (Vy P st x) fun v=>p8 st m t v
 | [],[t],[x]=> .Z_ (Vy P st x) fun v=>p8 st [] t v
 | m::ms,t::u::ts,x::xs=> .Z_ (Vy P st x) fun v=> .Z_ (p8 st m t v) fun a=> .Z_ (vh P st ms (u::ts) xs) fun b=> .ret ((a.1,b.1),a.2++b.2)
 | [],t::u::ts,x::xs=> .Z_ (Vy P st x) fun v=> .Z_ (p8 st [] t v) fun a=> .Z_ (vh P st [] (u::ts) xs) fun b=> .ret ((a.1,b.1),a.2++b.2)
 | _,_,_=> .no
structure oz (st:Ag T) (os:List OE) (ids:List Ah) (n:Nat):Prop where
 len:os.length=n/\ids.length=n
 ns:Kb os ids=true
 so: ∀ e∈CN os ids,e∈st.toSt.so
theorem oz.nil {st:Ag T}:oz st [] [] 0:=⟨⟨rfl,rfl⟩,rfl,fun _ h=>by simp [CN]at h⟩
theorem oz.append {st:Ag T} {a b:List OE} {i j:List Ah} {n m:Nat} (h:oz st a i n) (k:oz st b j m):oz st (a++b) (i++j) (n+m):=by
 have e:a.length=i.length:=h.len.1.trans h.len.2.symm;refine⟨⟨by simp [h.len.1,k.len.1],by simp [h.len.2,k.len.2]⟩,Ks h.ns k.ns,fun x hx=>?_⟩;rw [ID e]at hx;rcases List.mem_append.1 hx with hx | hx
 ·exact h.so x hx
 ·exact k.so x hx
theorem JL: ∀ (ks:List Kd) (x:DK T.den ks),Cm [] ks x=[]
 | [],_=>rfl
 | _::_,_=>rfl
theorem vi (ks:List Kd):Fl [] ks=0:=by cases ks<;>rfl
theorem sR {k:Kd} {c:DC T}:Yl (ym k c) (fun a=>a.2=[]/\ ∀ (w:World) (G:AJ) (v:Value),Af w G c.toC v->Af w G (Bk T.enc k a.1) v):=
 Yl.Z_ (Yl.sm fun x hx=>(Cv hx).1) fun x hx=>Yl.ret ⟨rfl,(by grind [IY])⟩
theorem sS {st:Ag T} {H:Az T} (hw:AK H st) (m:Nat) (k:Kd) (c:DC T):Yl (Abp st m k c) (fun a=>oz st (JG m k a.1) a.2 (Pv m k)/\
 ∀ (pre post:List Ah) (w:World) (G:AJ) (v:Value),Af w G c.toC v->Af w G ((PH m pre.length k a.1).toC (pre++(a.2++post))) v):=by
 have fr: ∀ (k:Kd) (c:DC T),(∀ x,JG (T:=T) m k x=[])->Pv m k=0->Yl (ym k c) (fun a=>oz st (JG m k a.1) a.2 (Pv m k)/\
  ∀ (pre post:List Ah) (w:World) (G:AJ) (v:Value),Af w G c.toC v->Af w G ((PH m pre.length k a.1).toC (pre++(a.2++post))) v):=fun k c h1 h2=>by
  refine sR.mono fun a ⟨q1,q2⟩=>⟨by grind [oz.nil],fun pre post w G v h=>?_⟩;unfold PH;rw [h2];exact q2 w G v h
 have own: ∀ (E:Nat) (id:Ah) (e:DE T) (dp:Bool) (l:List (T.den E)) (cs:List C),Kp c=some id->e∈st.so->e.id=id->E9 id=dp->C2 id=false->e.toE=⟨id,some (E,T.sz E,l.length),cs,true⟩->
  oz st [⟨dp,E,T.sz E,l.length,cs⟩] [id] 1/\ ∀ (pre post:List Ah) (w:World) (G:AJ) (v:Value),Af w G c.toC v->Af w G (PC.toC (pre++([id]++post)) (.o pre.length)) v:=by
  intro E id e dp l cs ho hm hid hd hmk hE;refine⟨⟨⟨rfl,rfl⟩,by simp [Kb,hd,hmk],fun x hx=>?_⟩,fun pre post w G v h=>?_⟩
  ·simp only [CN,mem_singleton]at hx;subst hx;have:(⟨dp,E,T.sz E,l.length,cs⟩:OE).ent id=e.toE:=by rw [hE];rfl
   rw [this];exact mem_map.2 ⟨e,hm,rfl⟩
  ·simp only [PC.toC,xE];rw [El ho]at h;grind [DC.toC]
 unfold Abp;cases k with
 | u_ E=>
   match m with
   | 0=>exact fr (.u_ E) c (fun _=>rfl) rfl
   | _+3=>exact fr (.u_ E) c (fun _=>rfl) rfl
   | 1=>
     simp only;split
     ·rename_i id ho;split
      ·rename_i E' l hr;refine Yl.Z_ (Yl.sm fun x hx=>hx) fun l' hl=>Yl.ret ?_;obtain⟨e,rfl⟩:=JJ hl;subst e;obtain⟨h1,_,d,h2,h3,h4⟩:=BK hr;have hE:=DE.toE_row h4;rw [h3]at hE;exact own E' id d false l _ ho h2 h3 (Fp h1) (by
        have:=hw;unfold DA Ag.look at hr;cases hq:C2 id with
        | false=>rfl
        | true=>simp [hq]at hr) hE
      ·exact Yl.no
     ·exact Yl.no
   | 2=>
     simp only;split
     ·rename_i id ho;split
      ·rename_i E' n l hr;refine Yl.opt fun u hu=>Yl.Z_ (Yl.sm fun x hx=>hx) fun l' hl=>Yl.ret ?_;obtain⟨e,rfl⟩:=JJ hl;subst e;obtain⟨h1,h1',d,h2,h3,h4⟩:=mb hr;have hn:n=(l.length:Int):=Ck hu;have hE:d.toE=⟨id,some (E',T.sz E',l.length),AH T E' (List.length l:Nat) 0 l,true⟩:=by unfold DE.toE;rw [h4,h3];subst hn;rfl
       exact own E' id d true l _ ho h2 h3 h1 h1' hE
      ·exact Yl.no
     ·exact Yl.no
 | int k=>exact fr (.int k) c (fun _=>rfl) rfl
 | bool=>exact fr .bool c (fun _=>rfl) rfl
 | str=>exact fr .str c (fun _=>rfl) rfl
theorem iH {st:Ag T} {H:Az T} (hw:AK H st): ∀ (ms:List Nat) (ks:List Kd) (cs:List (DC T)),Yl (Abq st ms ks cs) (fun a=>oz st (Cm ms ks a.1) a.2 (Fl ms ks)/\
 ∀ (pre post:List Ah) (w:World) (G:AJ) (vs:List Value),Ai w G (Ax cs) vs->Ai w G ((Fk ms pre.length ks a.1).map (PC.toC (pre++(a.2++post)))) vs)
 | [],[],[]=>Yl.ret ⟨oz.nil,(by grind [Ax,Fk])⟩
 | _::_,[],[]=>Yl.ret ⟨oz.nil,(by grind [Ax,Fk])⟩
 | m::ms,k::ks,c::cs=>Yl.Z_ (sS hw m k c) fun a ha=>Yl.Z_ (iH hw ms ks cs) fun b hb=>Yl.ret (by
   refine⟨ha.1.append hb.1,fun pre post w G vs h=>?_⟩;cases vs with
   | nil=>simp [Ax,Ai]at h
   | cons v vs=>
     simp only [Ax,Ai]at h;simp only [Fk,map_cons,Ai];have h2:=hb.2 (pre++a.2) post w G vs h.2;rw [length_append,ha.1.len.2]at h2;grind)
 | [],k::ks,c::cs=>Yl.Z_ sR fun a ha=>Yl.Z_ (iH hw [] ks cs) fun b hb=>Yl.ret (by
   refine⟨hb.1,fun pre post w G vs h=>?_⟩;cases vs<;>grind [Ax,Ai,Fk,PC.toC])
 | [],[],_::_=>Yl.no
 | _::_,[],_::_=>Yl.no
 | [],_::_,[]=>Yl.no
 | _::_,_::_,[]=>Yl.no
theorem Xb {st:Ag T} {H:Az T} (hw:AK H st) (m:List Nat) (t:VT) (v:DV T):Yl (p8 st m t v) (fun a=>oz st (Cm m (Fa T t) (NZ t a.1)) a.2 (Fl m (Fa T t))/\
 ∀ (pre post:List Ah) (w:World) (G:AJ) (u:Value),Ad w G v.toV u->Ad w G ((Iw m pre.length t a.1).toV (pre++(a.2++post))) u):=by
 cases t with
 | k kd=>
   simp only [p8];split
   ·rename_i c hc;rw [Yu hc];refine(sS hw (m.headD 0) kd c).mono fun a ⟨h1,h2⟩=>?_;have e1:Cm m [kd] ((a.1,()):DK T.den [kd])=JG (m.headD 0) kd a.1:=by
     cases m with
     | nil=>simp only [Cm,headD_nil];unfold JG;grind
     | cons x m=>grind [Cm]
    have e2:Fl m [kd]=Pv (m.headD 0) kd:=by
     cases m with
     | nil=>simp only [Fl,headD_nil];unfold Pv;grind
     | cons x m=>cases m<;>simp [Fl]
    refine⟨by show oz st (Cm m [kd] ((a.1,()):DK T.den [kd])) a.2 (Fl m [kd]);grind,fun pre post w G u h=>?_⟩;grind [DV.toV,Ad,Iw,PP.toV]
   ·exact Yl.no
 | s E=>
   simp only [p8];split
   ·rename_i cs hc;rw [Yv hc];refine Yl.Z_ (iH hw m (T.ks E) cs) fun a ⟨h1,h2⟩=>Yl.ret ⟨?_,fun pre post w G u h=>?_⟩
    ·simp only [Fa,NZ,T.afT];exact h1
    ·simp only [DV.toV,Ad]at h;obtain⟨arr,e,h⟩:=h;simp only [Iw,PP.toV,Ad,T.afT];grind
   ·exact Yl.no
 | f g=>exact Yl.no
theorem iI {P:Program} {st:Ag T} {H:Az T} (hw:AK H st): ∀ (ow:List (List Nat)) (ts:List VT) (xs:List ResultVar),Yl (vh P st ow ts xs) (fun a=>(Cy P st.toSt xs).1/\(∃ n,oz st (Dq ow ts a.1) a.2 n)/\xs.length=ts.length/\
 ∀ (pre post:List Ah) (w:World) (G:AJ) (us:List Value),Aw w G (Cy P st.toSt xs).2 us->Aw w G ((BX ow pre.length ts a.1).map (PP.toV (pre++(a.2++post)))) us)
 | m::ms,[t],[x]=>Yl.Z_ (JI hw x) fun v hv=>(Xb hw m t v).mono fun a ha=>by obtain⟨v1,v2,v3⟩:=hv;refine⟨⟨v2,trivial⟩,(by grind [Dq]),rfl,fun pre post w G us h=>?_⟩;simp only [Cy,Aw]at h;obtain⟨u,r,rfl,h1,rfl⟩:=h;rw [v3]at h1;simp only [BX,map_cons,map_nil,Aw];grind
 | [],[t],[x]=>Yl.Z_ (JI hw x) fun v hv=>(Xb hw [] t v).mono fun a ha=>by obtain⟨v1,v2,v3⟩:=hv;have e1:Cm [] (Fa T t) (NZ t a.1)=[]:=JL _ _;rw [e1]at ha;refine⟨⟨v2,trivial⟩,(by grind [Dq]),rfl,fun pre post w G us h=>?_⟩;simp only [Cy,Aw]at h;obtain⟨u,r,rfl,h1,rfl⟩:=h;rw [v3]at h1;simp only [BX,map_cons,map_nil,Aw];grind
 | m::ms,t::u::ts,x::xs=>Yl.Z_ (JI hw x) fun v hv=>Yl.Z_ (Xb hw m t v) fun a ha=>Yl.Z_ (iI hw ms (u::ts) xs) fun b hb=>Yl.ret (by
   obtain⟨v1,v2,v3⟩:=hv;obtain⟨b1,⟨n,b2⟩,b3,b4⟩:=hb;refine⟨⟨v2,b1⟩,⟨_,by simp only [Dq];exact ha.1.append b2⟩,by grind,fun pre post w G us h=>?_⟩;simp only [Cy,Aw]at h;obtain⟨u',r,rfl,h1,h2⟩:=h;rw [v3]at h1;have h3:=b4 (pre++a.2) post w G r h2;rw [length_append,ha.1.len.2]at h3;simp only [BX,map_cons,Aw,List.append_assoc]at h3 ⊢;grind)
 | [],t::u::ts,x::xs=>Yl.Z_ (JI hw x) fun v hv=>Yl.Z_ (Xb hw [] t v) fun a ha=>Yl.Z_ (iI hw [] (u::ts) xs) fun b hb=>Yl.ret (by
   obtain⟨v1,v2,v3⟩:=hv;obtain⟨b1,⟨n,b2⟩,b3,b4⟩:=hb;have e1:Cm [] (Fa T t) (NZ t a.1)=[]:=JL _ _;have e2:Fl [] (Fa T t)=0:=vi _;rw [e1,e2]at ha;have e3:a.2=[]:=List.length_eq_zero_iff.1 ha.1.len.2;refine⟨⟨v2,b1⟩,(by grind [Dq]),by grind,fun pre post w G us h=>?_⟩;simp only [Cy,Aw]at h;obtain⟨u',r,rfl,h1,h2⟩:=h;rw [v3]at h1;have h3:=b4 pre post w G r h2;have h4:=ha.2 pre (b.2++post) w G u' h1;rw [e3]at h4;simp only [BX,map_cons,Aw,e3,nil_append]at h3 h4 ⊢;grind)
 | [],[],[]=>Yl.no
 | [],[],_::_=>Yl.no
 | _::_,[],[]=>Yl.no
 | _::_,[],_::_=>Yl.no
 | [],[_],[]=>Yl.no
 | _::_,[_],[]=>Yl.no
 | [],[_],_::_::_=>Yl.no
 | _::_,[_],_::_::_=>Yl.no
 | [],_::_::_,[]=>Yl.no
 | _::_,_::_::_,[]=>Yl.no
section
variable {P:Program} {I:World->Prop}
def Ac6 (P:Program) (ow:List (List Nat)) (rs:List VT) (xs:List ResultVar) (e:Exit) (st:Ag T):Option (RT T rs):=match e with
 | .normal =>vh P st ow rs xs _ fun a=>match Mo a.2 with
   | true=>some a.1
   | false=>none
 | .ret =>vh P st ow rs xs _ fun a=>match Mo a.2 with
   | true=>some a.1
   | false=>none
 | _=>none
def iJ (Γ:List (CE T P I)) (n:Nat) (fn:Func) (body:Code) (h:Hn) (ow:List (List Nat)) (ps rs:List VT) (x:XS T ps):Option (RT T rs):=
 match Nat.ble (LR ps x).length fn.ntmps with
 | true=>KY Γ (yl Γ n) body h (Zb (LR ps x) fn.ntmps) (RT T rs) (Ac6 P ow rs fn.results.toList)
 | false=>none
theorem yn (m:Nat) (k:Kd) (x:OW T.den k):(PC.c (Bk T.enc k x)).ok m=true:=by have:=Dd (T:=T) (.k k) x;grind [Eo,V.pure,PC.ok]
theorem mc (m j:Nat) (k:Kd) (x:OW T.den k) (M:Nat) (h:j+Pv m k<=M):(PH m j k x).ok M=true:=by grind [PH,yn,PC.ok,blt_eq]
theorem Zc: ∀ (ms:List Nat) (j:Nat) (ks:List Kd) (x:DK T.den ks) (M:Nat),j+Fl ms ks<=M->(Fk ms j ks x).all (PC.ok M)=true
 | [],_,[],_,_,_=>rfl
 | _::_,_,[],_,_,_=>rfl
 | [],j,k::ks,x,M,h=>by
   have e:Fl [] ks=0:=by cases ks<;>rfl
   simp only [Fk,all_cons,yn,Bool.true_and];exact Zc [] j ks x.2 M (by simp only [Fl]at h;omega)
 | m::ms,j,k::ks,x,M,h=>by simp only [Fl]at h;simp only [Fk,all_cons,and_eq_true];exact⟨mc m j k x.1 M (by omega),Zc ms (j+Pv m k) ks x.2 M (by omega)⟩
theorem RO (m:List Nat) (j:Nat) (t:VT) (x:En T t) (M:Nat) (h:j+Fl m (Fa T t)<=M):(Iw m j t x).ok M=true:=by
 cases t with
 | k kd=>
   simp only [Iw,PP.ok];refine mc _ _ _ _ _ ?_;cases m with
   | nil=>simp only [headD_nil];unfold Pv;grind
   | cons a m=>grind [Fa,Fl]
 | s E=>exact Zc _ _ _ _ _ h
 | f g=>rfl
theorem QM (ms:List Nat) (ks:List Kd) (x:DK T.den ks):(Cm ms ks x).length =Fl ms ks:=by obtain⟨a,b⟩:=My ms 0 [] ks x;rw [a,b]
theorem Zd: ∀ (ow:List (List Nat)) (j:Nat) (ts:List VT) (x:RT T ts) (M:Nat),j+(Dq ow ts x).length <=M->(BX ow j ts x).all (PP.ok M)=true
 | [],_,[],_,_,_=>rfl
 | _::_,_,[],_,_,_=>rfl
 | [],j,[t],x,M,h=>by simp only [BX,all_cons,all_nil,Bool.and_true];grind [RO,Fl]
 | m::ms,j,[t],x,M,h=>by simp only [BX,all_cons,all_nil,Bool.and_true];grind [Dq,QM,RO]
 | [],j,t::u::ts,x,M,h=>by
   simp only [BX,all_cons,and_eq_true]
   exact⟨RO [] j t x.1 M (by have:Fl [] (Fa T t)=0:=by cases Fa T t<;>rfl
                             omega),Zd [] j (u::ts) x.2 M (by have e:Dq [] (u::ts) x.2=[]:=by cases ts<;>rfl
                                                              rw [e];simp only [List.length_nil];omega)⟩
 | m::ms,j,t::u::ts,x,M,h=>by simp only [Dq,length_append,QM]at h;simp only [BX,all_cons,and_eq_true];exact⟨RO m j t x.1 M (by omega),Zd ms _ (u::ts) x.2 M (by omega)⟩
theorem fh {P:Program} {st:St} {xs:List ResultVar} {w:World} {G:AJ} {v:Value} {ps:List PP} {ids:List Ah} (hl:ps.length=xs.length) (hs:(Cy P st xs).1) (h: ∀ us,Aw w G (Cy P st xs).2 us->Aw w G (ps.map (PP.toV ids)) us):(Ct P st xs).1/\(Ad w G (Ct P st xs).2 v->Ad w G (Nj ids ps) v):=by
 match xs,ps,hl,hs,h with
 | [x],[p],_,hs,h=>
   refine⟨hs.1,fun hv=>?_⟩;have:=h [v] (by simp only [Cy,Aw];exact⟨v,[],rfl,hv,rfl⟩);simp only [map_cons,map_nil,Aw]at this;obtain⟨v',r,e,h1,rfl⟩:=this;injection e with e _;subst e;exact h1
 | [],[],_,hs,h=>simp_all [Ct,Cy,Nj]
 | x::y::xs,p::q::ps,_,hs,h=>
   grind [Ct,Ad,Nj]
theorem Gr: ∀ (ow:List (List Nat)) (j:Nat) (ts:List VT) (x:RT T ts),(BX ow j ts x).length =ts.length
 | [],_,[],_=>rfl
 | _::_,_,[],_=>rfl
 | [],j,[t],x=>rfl
 | m::ms,j,[t],x=>rfl
 | [],j,t::u::ts,x=>by simp only [BX,length_cons,Gr [] j (u::ts) x.2]
 | m::ms,j,t::u::ts,x=>by simp only [BX,length_cons,Gr ms _ (u::ts) x.2]
theorem yo {Γ:List (CE T P I)} (aiK:Ik I) (acx:P.follows .mixedOrders =true) {n:Nat} {f:FuncId} {fn:Func} {body:Code} (hf:P.funcs[f]? =some fn) (hb:fn.body=some body) (abR:PL.ent P f=true) {h:Hn} {ow:List (List Nat)} {ps rs:List VT} {x:XS T ps} {r:RT T rs}
 (hr:iJ Γ n fn body h ow ps rs x=some r):Mr P I f (FX ps x) (Dq ow rs r) (BX ow 0 rs r):=by
 unfold iJ at hr;split at hr
 ·rename_i hl;obtain⟨H,hw⟩:=fe (args:=LR ps x) (n:=fn.ntmps) (fun H=>Za ps x);refine Mr.of aiK abR hf hb (Zd _ _ _ _ _ (by simp)) fun F hI=>?_;rw [<-Uh, <-VH (by simp_all)];refine Fs acx (iG acx n) body h _ H _ _ r hw hr F _ hI fun H' e d_ n q=>?_;have fin:vh P d_ ow rs fn.results.toList _ (fun a=>match Mo a.2 with | true=>some a.1 | false=>none)=some r->Agz P d_.toSt fn.results.toList (Dq ow rs r) (BX ow 0 rs r):=by
   intro q;obtain⟨a,⟨h1,⟨k,h2⟩,h3,h4⟩,h5⟩:=iI n.ok ow rs fn.results.toList _ _ r q;split at h5
   ·rename_i hnd;injection h5 with h5;subst h5;have hlen:(BX ow 0 rs a.1).length =fn.results.toList.length:=by rw [Gr];omega
    refine⟨a.2,h2.ns,HM hnd,(fh (w:=default) (G:=im fun _=>False) (v:=Go.undef) (ids:=a.2) hlen h1 (fun us hu=>?_)).1,fun w G v hv=>(fh hlen h1 (fun us hu=>?_)).2 hv,h2.so⟩
    ·have:=h4 [] [] _ _ us hu;grind
    ·have:=h4 [] [] _ _ us hu;grind
   ·cases h5
  cases e<;>simp only [Ac6]at q ⊢ <;>first
   | grind
   | grind
 ·cases hr
theorem me {pre:List OE} {n:OE} {post:List OE}:(pre++([n]++post))[pre.length]? =some n:=by simp
theorem fi (m:Nat) (k:Kd) (x:OW T.den k) (pre post:List OE):(PH m pre.length k x).frz (pre++(JG m k x++post))=Bk T.enc k x:=by
 cases k with
 | u_ E=>
   match m with
   | 0=>rfl
   | _+3=>rfl
   | 1=>
     show PC.frz _ (.o pre.length)=_;simp only [PC.frz,JG,me];rfl
   | 2=>
     show PC.frz _ (.o pre.length)=_;simp only [PC.frz,JG,me,OE.frz];exact congrArg (C.sl _) (QF E _ 0 x)
 | _=>rfl
theorem Ui: ∀ (ms:List Nat) (ks:List Kd) (x:DK T.den ks) (pre post:List OE),(Fk ms pre.length ks x).map (PC.frz (pre++(Cm ms ks x++post)))=BD T.enc ks x
 | [],[],_,_,_=>by simp [Fk,BD]
 | _::_,[],_,_,_=>by simp [Fk,BD]
 | [],k::ks,x,pre,post=>by have:=Ui [] ks x.2 pre post;rw [JL]at this ⊢;simp only [Fk,map_cons,BD,PC.frz,this]
 | m::ms,k::ks,x,pre,post=>by have h1:=fi m k x.1 pre (Cm ms ks x.2++post);have h2:=Ui ms ks x.2 (pre++JG m k x.1) post;rw [length_append,(LN m [] k x.1).1,(LN m [] k x.1).2]at h2;grind [Fk,Cm,BD]
theorem O7 (m:List Nat) (t:VT) (x:En T t) (pre post:List OE):(Iw m pre.length t x).frz (pre++(Cm m (Fa T t) (NZ t x)++post))=Eo t x:=by
 cases t with
 | k kd=>
   simp only [Iw,PP.frz,Eo,Fa,NZ];have e1:Cm m [kd] ((x,()):DK T.den [kd])=JG (m.headD 0) kd x:=by
    cases m with
    | nil=>simp only [Cm,headD_nil];unfold JG;cases kd<;>rfl
    | cons y m=>grind [Cm]
   rw [e1];exact congrArg V.c (fi (m.headD 0) kd x pre post)
 | s E=>
   simp only [Iw,PP.frz,Eo,Fa,NZ,Ui];exact congrArg V.agg (T.abw E x)
 | f g=>rfl
theorem Uj: ∀ (ow:List (List Nat)) (ts:List VT) (x:RT T ts) (pre post:List OE),(BX ow pre.length ts x).map (PP.frz (pre++(Dq ow ts x++post)))=Cl ts x
 | [],[],_,_,_=>by simp [BX,Cl]
 | _::_,[],_,_,_=>by simp [BX,Cl]
 | [],[t],x,pre,post=>by have:=O7 [] t x pre post;grind [JL,BX,Dq,Cl]
 | m::ms,[t],x,pre,post=>by grind [O7,BX,Dq,Cl]
 | [],t::u::ts,x,pre,post=>by
   have h1:=O7 [] t x.1 pre post;rw [JL]at h1;have e:Dq [] (u::ts) x.2=[]:=by cases ts<;>rfl
   have h2:=Uj [] (u::ts) x.2 pre post;rw [e]at h2;simp only [BX,Dq,map_cons,Cl,h1,h2]
 | m::ms,t::u::ts,x,pre,post=>by have h1:=O7 m t x.1 pre (Dq ms (u::ts) x.2++post);have h2:=Uj ms (u::ts) x.2 (pre++Cm m (Fa T t) (NZ t x.1)) post;grind [QM,BX,Dq,Cl]
theorem mf (ow:List (List Nat)) (ts:List VT) (x:RT T ts):uC (Dq ow ts x) (BX ow 0 ts x)=IB ts x:=by
 have h:=Uj ow ts x [] [];simp only [List.length_nil,nil_append,append_nil]at h;unfold uC
 match ts,x,h with
 | [],x,h=>
   grind [IB,Cl]
 | [t],x,h=>
   split
   ·rename_i p hp;rw [hp]at h;simp only [map_cons,map_nil,Cl,List.cons.injEq,and_true]at h;exact h
   ·rename_i hne;have:=Gr (T:=T) ow 0 [t] x
    match hp:BX ow 0 [t] x,this,hne with
    | [p],_,hne=>grind
    | [],h,_=>cases h
    | _::_::_,h,_=>simp at h
 | t::u::ts,x,h=>
   grind [Gr,IB]
def Ai4 (Γ:List (CE T P I)) (aiK:Ik I) (acx:P.follows .mixedOrders =true) (n:Nat) (f:FuncId) (fn:Func) (body:Code) (h:Hn) (ow:List (List Nat)) (ps rs:List VT) (run:XS T ps->Option (RT T rs)) (hf:P.funcs[f]? =some fn) (hb:fn.body=some body)
    (heq:run=iJ Γ n fn body h ow ps rs) (abR:PL.ent P f=true:=by kernel_rfl):CE T P I where
 f:=f
 ps:=ps
 rs:=rs
 run:=run
 ok:=fun x r q=>by have hx:=yo (h:=h) aiK acx hf hb abR (heq▸q);have:=hx.flat (by rw [mf];exact fg _ _);rwa [mf]at this
 ow:=ow
 okx:=fun _ x r q=>yo (h:=h) aiK acx hf hb abR (by rw [<-heq];exact q)
end
end Go.PL
