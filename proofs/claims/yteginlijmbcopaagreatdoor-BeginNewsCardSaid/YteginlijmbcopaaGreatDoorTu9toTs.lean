/- The pure logic: Tu9, Tua, Tub, Tuc, Tx, Tud, Tp, Tw, PlYi, Tz, Tw2, Tq, Tr, Ts. -/
import Derived.Test.YteginlijmbcopaaGreatDoorPlYgtoTu8
import Derived.Test.YteginlijmbcopaaGreatDoorPlRtoPlPt
import Derived.Test.YteginlijmbcopaaGreatDoorPlPvtoPlYf
open List (mem_map mem_filter all_eq_true map_cons mem_cons nodup_cons mem_range map_append any_eq_true mem_singleton all_cons filter_sublist getElem?_set map_nil map_map)
open Bool (and_eq_true not_eq_true' or_eq_true or_eq_false_iff)
open Nat (beq_eq lt_of_lt_of_le le_trans eq_of_beq_eq_true le_refl blt_eq zero_add le_succ mul_one ble_eq)
open Option.some (injEq)
open Option (bind_eq_some_iff map_some)
set_option linter.all false
set_option linter.all false
namespace Go.PL
open Go Go.RowKit
variable {T:Bo}
def YD {P:Program} {I:World->Prop} (f:FuncId):List (CE T P I)->Option TypeId
 | []=>none
 | e::r=>match Nat.beq e.f f,e.ins with
   | true,some E=>some E
   | _,_=>YD f r
theorem SX {P:Program} {I:World->Prop} {f:FuncId} {E:TypeId}: ∀ {l:List (CE T P I)},YD f l=some E->W7 P f E
 | [],h=>by cases h
 | e::r,h=>by
   unfold YD at h;split at h
   ·rename_i E' hb hE;injection h with h;subst h;rw [<-eq_of_beq_eq_true hb];exact e.aqz _ hE
   ·exact SX h
def Ahy {P:Program} {I:World->Prop} {E:TypeId} (f:FuncId) (h:W7 P f E):CE T P I where
 f:=f
 ps:=[]
 rs:=[]
 run:=fun _=>none
 ok:=(by grind)
 ins:=some E
 aqz:=(by grind)
def yS (st:Af T) (r:Ah) (E:Nat) (l m:List (T.den E)) (i:Int) (d:Nat):M (Af T):=
 .opt (k_ (0<=i/\i<=(l.length:Nat)/\0<m.length/\(l.length+m.length)*8<=140737488355328)) fun _=>
  match st.new r (.row E (l.take i.toNat++(m++l.drop i.toNat)))with
  | some s=> .ret (s.put (some d) (.c (.c (.e_ r))))
  | none=> .no
theorem yT {H:As T} {P:Program} {I:World->Prop} {st:Af T} (hw:AH H st) {o:Oper} {f:FuncId} {x y z:Operand} {d:Nat} {r rv:Ah} {E:Nat} {l m:List (T.den E)} {i:Int} (hk:Ck o.op= .call f [x,y,z]) (hd:o.dst=some d) (g1:PL.ent P f=true) (hp:W7 P f E) (g4:T.sz E=1) (Tj:r ≠ rv)
 (hx:st.arg [] x=some (.c (.c (.e_ r)))) (hy:st.arg [] y=some (.c (.k (.int .i64) i))) (hz:st.arg [] z=some (.c (.c (.e_ rv)))) (hr:DG st r=some ⟨E,l⟩) (hrv:DG st rv=some ⟨E,m⟩):
 Yl (yS st r E l m i d) (fun an=>(∃ H',Nx H st H' an)/\an.pre=st.pre/\ ∀ K:St->Prop,K an.toSt->DJ P I o st.toSt K):=by
 unfold yS;refine Yl.opt fun u hn=>?_;have hn:=Cm hn;split
 ·rename_i s hs;obtain⟨⟨H1,n1⟩,l1,p1⟩:=Af.acv hw (show (DX.row E _:DX T).ok from trivial) hs;obtain⟨H2,n2⟩:=Af.D_ n1 (some d) (v:= .c (.c (.e_ r))) (by simp only [DV.ok,DC.ok]);refine Yl.ret ⟨⟨H2,n2⟩,by rw [AS];exact p1,fun K hK=>?_⟩;obtain⟨_,a2,a3⟩:=Ht hw hx;obtain⟨_,b2,b3⟩:=Ht hw hy;obtain⟨_,c2,c3⟩:=Ht hw hz;obtain⟨h1,_,_⟩:=BN hr;obtain⟨h2,_,_⟩:=BN hrv;rw [g4]at h1 h2;have hlen: ∀ l:List (T.den E),(l.flatMap (T.enc E)).length =l.length:=fun l=>by rw [aE (fun y=>AQ E y),g4,mul_one]
  have ht: ∀ (l:List (T.den E)) (j:Nat),(l.flatMap (T.enc E)).take j=(l.take j).flatMap (T.enc E):=fun l j=>by have:=Hp (fun y=>AQ E y) l j;grind
  have hdp: ∀ (l:List (T.den E)) (j:Nat),(l.flatMap (T.enc E)).drop j=(l.drop j).flatMap (T.enc E):=fun l j=>by have:=Jy (fun y=>AQ E y) l j;grind
  have hE:(⟨r,0, .row E (l.take i.toNat++(m++l.drop i.toNat))⟩:DE T).toE =⟨r,some (E,1,l.length+m.length),(l.flatMap (T.enc E)).take i.toNat++m.flatMap (T.enc E)++(l.flatMap (T.enc E)).drop i.toNat,true⟩:=by show (⟨r,some (E,T.sz E,(l.take i.toNat++(m++l.drop i.toNat)).length),(l.take i.toNat++(m++l.drop i.toNat)).flatMap (T.enc E),true⟩:Aw)=_;grind
  refine DJ.ins (K:=K) hk g1 hp (fun Fr a w G hR=>?_) (fun Fr a w G hR=>?_) (fun Fr a w G hR=>?_) h1 h2 Tj ⟨hn.1,hn.2.1⟩ hn.2.2.1 hn.2.2.2 (by rw [<-hE];exact l1) (by grind [Af.h_,DV.toV,DC.toC])
  ·have:=hR.arg rfl a2;grind [DV.toV,DC.toC]
  ·have:=hR.arg rfl b2;grind [DV.toV,DC.toC,Bm]
  ·have:=hR.arg rfl c2;simp_all [DV.toV,DC.toC]
 ·exact Yl.no
def Afq {P:Program} {I:World->Prop} (Γ:List (CE T P I)) (o:Oper) (st:Af T):M (Af T):=match Ck o.op,o.dst with
 | .call f [x,y,z],some d=>match st.arg [] x,st.arg [] y,st.arg [] z,YD f Γ with
   | some (.c (.c (.e_ r))),some (.c (.k (.int .i64) i)),some (.c (.c (.e_ rv))),some E0=>match DG st r,DG st rv with
     | some ⟨E,l⟩,some ⟨E',m'⟩=>match ax E E' m' with
       | some m=>Tf ((PL.ent P f&& !Bf r rv)&&(Nat.beq E0 E&&Nat.beq (T.sz E) 1)) (yS st r E l m i d)
       | none=> .no
     | _,_=> .no
   | _,_,_,_=> .no
 | _,_=> .no
theorem Ab9 {H:As T} {P:Program} {I:World->Prop} {Γ:List (CE T P I)} {st:Af T} (hw:AH H st) {o:Oper}:Yl (Afq Γ o st) (fun an=>(∃ H',Nx H st H' an)/\an.pre=st.pre/\ ∀ K:St->Prop,K an.toSt->DJ P I o st.toSt K):=by
 unfold Afq;split
 ·rename_i f x y z d hk hd;split
  ·rename_i r i rv E0 hx hy hz hp;split
   ·rename_i E l E' m' hr hrv;split
    ·rename_i m hm;refine Yl.Tf fun hg=>?_;simp only [and_eq_true,beq_eq,not_eq_true']at hg;obtain⟨⟨g1,g2⟩,g3,g4⟩:=hg;subst g3;obtain⟨e,hme⟩:=Kr hm;subst e;subst hme;exact yT hw hk hd g1 (SX hp) g4 (fun q=>by rw [AN.2 q]at g2;cases g2) hx hy hz hr hrv
    ·exact Yl.no
   ·exact Yl.no
  ·exact Yl.no
 ·exact Yl.no
end Go.PL
set_option linter.all false
namespace Go.PL
open Go Go.RowKit
variable {T:Bo}
def Afr (P:Program) (o:Oper) (st:Af T):M (Af T):=match o.op with
 | .load t x=>match o.dst,st.arg [] x,K0 P t with
   | some d,some (.c (.rp id N i off)),some (false,1)=>match Kh st id with
     | some ⟨E,(nn,l,none)⟩=>Tf (Fh id&&Nat.beq N (T.sz E)) (.opt (idx l i) fun x=> .opt (k_ (i<nn)) fun _=>match GC (T.ks E) (T.un E x) off with
       | some ⟨_,_⟩=> .ret (st.put (some d) (.c (.c (.e_ (1000007::(i.toNat*T.sz E+off)::id)))))
       | none=> .no)
     | _=> .no
   | _,_,_=> .no
 | _=> .no
def Afs (P:Program) (o:Oper) (st:Af T):M (Af T):=match o.op with
 | .indexAddr t x y=>match o.dst,st.arg [] x,st.arg [] y,Dk P t with
   | some d,some (.c (.c (.e_ (m::k::id)))),some (.c (.k (.int _) j)),some (_,n')=>match Kh st id with
     | some ⟨E,(nn,l,none)⟩=>Tf (Fh id&&(Nat.beq m 1000007&&Nat.beq (T.sz E) 1)) (.opt (idx l (k:Int)) fun x=> .opt (k_ ((k:Int)<nn)) fun _=>match GC (T.ks E) (T.un E x) 0 with
       | some ⟨F,y⟩=>Tf (Nat.beq n' (T.sz F)) (.opt (idx y j) fun _=> .ret (st.put (some d) (.c (.c (.ptr (m::k::id) (j.toNat*n'))))))
       | none=> .no)
     | _=> .no
   | _,_,_,_=> .no
 | _=> .no
def Aft (P:Program) (o:Oper) (st:Af T):M (Af T):=match o.op with
 | .store t x y=>match o.dst,st.arg [] x,st.arg [] y,K0 P t with
   | none,some (.c (.c (.ptr (m::k::id) off))),some (.c c),some (false,1)=>match Kh st id with
     | some ⟨E,(nn,l,none)⟩=>Tf (Fh id&&(Nat.beq m 1000007&&Nat.beq (T.sz E) 1)) (.opt (idx l (k:Int)) fun x=> .opt (k_ ((k:Int)<nn)) fun _=>match GC (T.ks E) (T.un E x) 0 with
       | some ⟨F,y⟩=>Tf (Nat.beq (T.sz F) 1) (.opt (idx y (off:Int)) fun v=>match Ks c (T.ks F) (T.un F v) 0 with
         | some z=>match GD F (y.set off (T.bd F z)) (T.ks E) (T.un E x) 0 with
           | some x'=> .ret (st.abn id (.deep E nn (l.set k (T.bd E x')) none))
           | none=> .no
         | none=> .no)
       | none=> .no)
     | _=> .no
   | _,_,_,_=> .no
 | _=> .no
section
variable {H:As T} {P:Program} {I:World->Prop} {st:Af T}
theorem Vu {E:Nat} {nn:Int} {l:List (T.den E)} {k off:Nat} {x:T.den E} (hx:l[k]? =some x) (hn:(k:Int)<nn) {F:Nat} {y:List (T.den F)} (hy:GC (T.ks E) (T.un E x) off=some ⟨F,y⟩):
 (AC T E nn 0 l)[k*T.sz E+off]? =some (.isl F (T.sz F) y.length (y.flatMap (T.enc F))):=by
 obtain⟨hc,acy⟩:=Pc hy;rw [Kj hx acy,if_pos (by omega)];exact hc
theorem Aca (hw:AH H st) {o:Oper}:Yl (Afr P o st) (fun an=>(∃ H',Nx H st H' an)/\an.pre=st.pre/\ ∀ K:St->Prop,K an.toSt->DJ P I o st.toSt K):=by
 unfold Afr;split
 ·rename_i t x hop;split
  ·rename_i d id N i off hd hx ht;split
   ·rename_i E nn l hdr;refine Yl.Tf fun hg=>Yl.opt fun xx hxx=>Yl.opt fun u hu=>?_;simp only [and_eq_true,beq_eq]at hg;obtain⟨g1,g2⟩:=hg;subst g2;split
    ·rename_i F y hy;have hin:=Cm hu;obtain⟨i0,i1,hxi⟩:=Jl hxx;obtain⟨a1,a2,a3⟩:=Ht hw hx;obtain⟨hmk,hlr,e,he1,he2,he3⟩:=B3 hdr;have hE:e.toE=⟨id,some (E,T.sz E,l.length),AC T E nn 0 l,true⟩:=by unfold DE.toE;rw [he3,he2];rfl
     obtain⟨H4,n4⟩:=Af.aao hw (some d) (v:= .c (.c (.e_ (1000007::(i.toNat*T.sz E+off)::id)))) (by simp only [DV.ok,DC.ok]);refine Yl.ret ⟨⟨H4,n4⟩,AS _ _ _,fun K hK Fr a w G Q hI hR=>?_⟩;have hL:st.toSt.IN id=some e.toE:=hR.I_ (mem_map.2 ⟨e,he1,rfl⟩) (by rw [hE]) g1;have hk:e.toE.cs[i.toNat*T.sz E+off]? =some (.isl F (T.sz F) y.length (y.flatMap (T.enc F))):=by grind [Vu]
     have V_:=hR.arg rfl a2;rw [a3]at V_;simp only [DV.toV,DC.toC,Ab,Ad]at V_;obtain⟨b,hb1,hv⟩:=V_;obtain⟨_,hRE,b2,v,k3,k4,k5⟩:=hR.inner hL hk;rw [hb1]at k3;injection k3 with k3;subst k3;obtain⟨dd,ti,hu',hd',_⟩:=C7 ht;have acW:v.oneCell'=true:=by unfold Bc at hRE;obtain⟨_,v2,c2,c3⟩:=hRE;rw [show (⟨BO (i.toNat*T.sz E+off) id,some (F,T.sz F,y.length),y.flatMap (T.enc F),true⟩:Aw).id =BO (i.toNat*T.sz E+off) id from rfl,k5]at c2;injection c2 with c2;subst c2;rcases c3 with ⟨p,rfl,_⟩ | ⟨b',cap,cur,rfl,_⟩<;>rfl
     have q_:(execOp a.eval o).run P w= .ok (.value v) w:=by simp_all [execOp,DY]
     refine AJ q_ ⟨_,G,hK,?_⟩;rw [Af.h_,hd];exact hR.put (by simp only [DV.toV,DC.toC,Ab,Ad];exact⟨k5,acW⟩)
    ·exact Yl.no
   ·exact Yl.no
  ·exact Yl.no
 ·exact Yl.no
theorem Acb (hw:AH H st) {o:Oper}:Yl (Afs P o st) (fun an=>(∃ H',Nx H st H' an)/\an.pre=st.pre/\ ∀ K:St->Prop,K an.toSt->DJ P I o st.toSt K):=by
 unfold Afs;split
 ·rename_i t x y hop;split
  ·rename_i d m k id ki j E' n' hd hx hy ht;split
   ·rename_i E nn l hdr;refine Yl.Tf fun hg=>Yl.opt fun xx hxx=>Yl.opt fun u hu=>?_;simp only [and_eq_true,beq_eq]at hg;obtain⟨g1,g2,g3⟩:=hg;subst g2;split
    ·rename_i F r hr;refine Yl.Tf fun hg'=>Yl.opt fun z hz=>?_;have g4:n'=T.sz F:=by simp_all
     subst g4;have hin:=Cm hu;obtain⟨i0,i1,hxi⟩:=Jl hxx;obtain⟨j0,j1,_⟩:=Jl hz;obtain⟨a1,a2,a3⟩:=Ht hw hx;obtain⟨b1,b2,b3⟩:=Ht hw hy;obtain⟨hmk,hlr,e,he1,he2,he3⟩:=B3 hdr;have hE:e.toE=⟨id,some (E,T.sz E,l.length),AC T E nn 0 l,true⟩:=by unfold DE.toE;rw [he3,he2];rfl
     obtain⟨H4,n4⟩:=Af.aao hw (some d) (v:= .c (.c (.ptr (1000007::k::id) (j.toNat*T.sz F)))) (by simp only [DV.ok,DC.ok]);refine Yl.ret ⟨⟨H4,n4⟩,AS _ _ _,fun K hK Fr a w G Q hI hR=>?_⟩;have hL:st.toSt.IN id=some e.toE:=hR.I_ (mem_map.2 ⟨e,he1,rfl⟩) (by rw [hE]) g1;have hk:e.toE.cs[k]? =some (.isl F (T.sz F) r.length (r.flatMap (T.enc F))):=by rw [hE];have:=Vu (nn:=nn) (k:=k) (off:=0) (by simpa using hxi) hin hr;grind
     have V_:=hR.arg rfl a2;have hyv:=hR.arg rfl b2;rw [a3]at V_;rw [b3]at hyv;simp only [DV.toV,DC.toC,Bm,Ab,Ad]at V_ hyv;obtain⟨_,hRE,_⟩:=hR.inner hL hk;unfold Bc at hRE;obtain⟨_,v2,c2,c3⟩:=hRE;rw [show (⟨BO k id,some (F,T.sz F,r.length),r.flatMap (T.enc F),true⟩:Aw).id =BO k id from rfl,show BO k id=1000007::k::id from rfl,V_.1]at c2;injection c2 with c2;rcases c3 with ⟨p,_,c4,_⟩ | ⟨b',cap,cur,c3,e2,_⟩
     ·omega
     ·have q_:(execOp a.eval o).run P w= .ok (.value (.pointer (some ⟨b',0+j.toNat*T.sz F,none⟩))) w:=by simp [execOp,hop,hyv,c2,c3,Ei ht b' 0 r.length cap ki j j0 j1 w]
      refine AJ q_ ⟨_,G,hK,?_⟩;rw [Af.h_,hd];exact hR.put (by simp only [DV.toV,DC.toC,Ab,Ad];exact⟨b',e2,by grind⟩)
    ·exact Yl.no
   ·exact Yl.no
  ·exact Yl.no
 ·exact Yl.no
theorem nO {F:Nat} {c:C} {v':T.den F} (hs:T.sz F=1) (hv:T.enc F v'=[c]): ∀ {y:List (T.den F)} {off:Nat},off<y.length->(y.set off v').flatMap (T.enc F)=(y.flatMap (T.enc F)).take off++[c]++(y.flatMap (T.enc F)).drop (off+1)
 | [],_,h=>by simp at h
 | a::y,0,_=>by grind [AQ]
 | a::y,off+1,h=>by
   have ha:(T.enc F a).length =1:=by rw [AQ,hs]
   obtain⟨q,hq⟩: ∃ q,T.enc F a=[q]:=List.length_eq_one_iff.1 ha;have:=nO hs hv (y:=y) (off:=off) (by simpa using h);simp [hq,this]
theorem Acc (hw:AH H st) {o:Oper}:Yl (Aft P o st) (fun an=>(∃ H',Nx H st H' an)/\an.pre=st.pre/\ ∀ K:St->Prop,K an.toSt->DJ P I o st.toSt K):=by
 unfold Aft;split
 ·rename_i t x y hop;split
  ·rename_i m k id off c hd hx hy ht;split
   ·rename_i E nn l hdr;refine Yl.Tf fun hg=>Yl.opt fun xx hxx=>Yl.opt fun u hu=>?_;simp only [and_eq_true,beq_eq]at hg;obtain⟨g1,g2,g3⟩:=hg;subst g2;split
    ·rename_i F r hr;refine Yl.Tf fun hg'=>Yl.opt fun v hv0=>?_;have g4:T.sz F=1:=by simp_all
     split
     ·rename_i z hz;split
      ·rename_i x' hx';have hin:=Cm hu;obtain⟨i0,i1,hxi⟩:=Jl hxx;obtain⟨j0,j1,hvi⟩:=Jl hv0;simp only [Int.toNat_natCast]at hxi hvi;have hkl:k<l.length:=by omega
       have hol:off<r.length:=by omega
       obtain⟨a1,a2,a3⟩:=Ht hw hx;obtain⟨b1,b2,b3⟩:=Ht hw hy;obtain⟨hmk,hlr,e,he1,he2,he3⟩:=B3 hdr;obtain⟨z1,z2,_,z3,z4⟩:=Pd hz;obtain⟨w1,w2⟩:=Nh hx';have hE:e.toE=⟨id,some (E,T.sz E,l.length),AC T E nn 0 l,true⟩:=by unfold DE.toE;rw [he3,he2];rfl
       have hk:e.toE.cs[k]? =some (.isl F (T.sz F) r.length (r.flatMap (T.enc F))):=by rw [hE];have:=Vu (nn:=nn) (k:=k) (off:=0) hxi hin hr;grind
       have hv':T.enc F (T.bd F z)=[c.toC]:=by
        have hl1:(BG T.enc (T.ks F) (T.un F v)).length =1:=by have:=AQ F v;rw [<-T.aa2,g4]at this;exact this
        obtain⟨q,hq⟩:=List.length_eq_one_iff.1 hl1;rw [<-T.aa2,T.afv,z2,hq];rfl
       have hfl:=nO g4 hv' hol;have akk:T.aa4 E (T.bd E x')=(T.aa4 E xx).set 0 (.isl F (T.sz F) r.length ((r.flatMap (T.enc F)).take off++[c.toC]++(r.flatMap (T.enc F)).drop (off+[c.toC].length))):=by rw [Bo.aa4,T.afv,w1];rw [List.length_set,hfl];rfl
       have aiA:=RJ (n:=nn) (k:=0) (x':=T.bd E x') (p:=0) hxi (by omega) akk (by omega);obtain⟨H2,n2⟩:=Af.abk hw id (x:= .deep E nn (l.set k (T.bd E x')) none) trivial;refine Yl.ret ⟨⟨H2,n2⟩,rfl,fun K hK Fr a w G Q hI hR=>?_⟩;have hm:e.toE∈st.toSt.so:=mem_map.2 ⟨e,he1,rfl⟩;have hL:st.toSt.IN id=some e.toE:=hR.I_ hm (by rw [hE]) g1;have V_:=hR.arg rfl a2;rw [a3]at V_;simp only [DV.toV,DC.toC,Ab,Ad]at V_;obtain⟨b,hb1,hv⟩:=V_;have hyv:=hR.arg rfl b2;rw [b3]at hyv;simp only [DV.toV,Ab]at hyv;have acW:=hyv.one;have hcl:(a.eval y).cells.toList =[a.eval y]:=by cases hq:a.eval y<;>rw [hq]at acW<;>first | rfl | cases acW
       have hc:Aj w G [c.toC] (a.eval y).cells.toList :=by rw [hcl];exact⟨hyv,trivial⟩
       have aHf:(r.flatMap (T.enc F)).length =r.length:=by rw [BQ (fun y=>AQ F y),g4,mul_one]
       obtain⟨cur,T',c1,c2,c3⟩:=hR.ahl hL hk (b:=b) hb1 (off:=off) hc (by grind) (by simp [Ao,z3]);have hs:=El (P:=P) ht c1 (by grind) c2 (Aj.one hc);generalize w.setRow b _=w1 at hs c3;have q_:(execOp a.eval o).run P w= .ok .skip w1:=by simp_all [execOp]
       refine FP q_ ?_;rw [hd];refine⟨_,G,hK,c3.less ?_⟩;refine Lj (JB.refl _) (JB.refl _) ?_ (FH n2.ok) rfl;intro u hu;obtain⟨e3,h1,rfl⟩:=mem_map.1 hu;rcases acd hw.nd h1 with ⟨h1,h2⟩ | h1
       ·exact mem_map.2 ⟨e3.toE,mem_map.2 ⟨e3,h1,rfl⟩,(by grind [Eb,DE.toE_id])⟩
       ·subst h1;refine mem_map.2 ⟨e.toE,hm,?_⟩;rw [Ec (by rw [hE])];show _=(⟨id,some (E,T.sz E,(l.set k (T.bd E x')).length),AC T E nn 0 (l.set k (T.bd E x')),true⟩:Aw);grind
      ·exact Yl.no
     ·exact Yl.no
    ·exact Yl.no
   ·exact Yl.no
  ·exact Yl.no
 ·exact Yl.no
end
end Go.PL
set_option linter.all false
namespace Go.PL
open Go Go.RowKit
variable {T:Bo}
def mkF {den:Nat->Type}:(ks:List Kd)->Option (Int->DK den ks)
 | [.int .u8]=>some fun n=>(n,())
 | _=>none
theorem yU {den:Nat->Type} {enc: ∀ E,den E->List C}: ∀ {ks:List Kd} {f:Int->DK den ks},mkF ks=some f-> ∀ n,BG enc ks (f n)=[.int .u8 n]
 | [.int .u8],f,h,n=>by injection h with h;subst h;rfl
def dby (P:Program) (o:Oper) (st:Af T):M (Af T):=match o.op with
 | .convert src dst x=>match st.ev x,tL P dst,Eh P src with
   | .c (.k .str s),some E,true=>match mkF (den:=T.den) (T.ks E)with
     | some f=> .opt (k_ (s.length<=140737488355328)) fun _=> .ret (st.put o.dst (.c (.k (.l_ E) (s.map fun b=>T.bd E (f (b.toNat:Int))))))
     | none=> .no
   | _,_,_=> .no
 | _=> .no
theorem Afu {H:As T} {P:Program} {I:World->Prop} {st:Af T} (hw:AH H st) {o:Oper}:Yl (dby P o st) (fun an=>(∃ H',Nx H st H' an)/\an.pre=st.pre/\ ∀ K:St->Prop,K an.toSt->DJ P I o st.toSt K):=by
 unfold dby
 split
 ·rename_i src dst x hop;split
  ·rename_i s E hev hb hs;split
   ·rename_i f hf;refine Yl.opt fun u hu=>?_;obtain⟨H4,n4⟩:=Af.aao hw o.dst (v:= .c (.k (.l_ E) (s.map fun b=>T.bd E (f (b.toNat:Int))))) (by simp only [DV.ok,DC.ok]);refine Yl.ret ⟨⟨H4,n4⟩,AS _ _ _,fun K hK=>?_⟩;have ahy:=st.abS x;rw [hev]at ahy;have he: ∀ n,T.enc E (T.bd E (f n))=[.int .u8 n]:=fun n=>by rw [<-T.aa2,T.afv];exact yU hf n
    have hv:(DV.c (.k (.l_ E) (s.map fun b=>T.bd E (f (b.toNat:Int)))):DV T).toV =vL (eI .u8) (D6 s):=by
     have hfl: ∀ s:List UInt8,(s.map fun b=>T.bd E (f (b.toNat:Int))).flatMap (T.enc E)=(D6 s).flatMap (eI .u8):=fun s=>by
      induction s with
      | nil=>rfl
      | cons b s ih=>
        simp only [D6,map_cons,List.flatMap_cons]at ih ⊢;rw [ih,he];rfl
     have hln: ∀ s:List UInt8,(s.map fun b=>T.bd E (f (b.toNat:Int))).length =(D6 s).length :=fun s=>by simp [D6]
     exact congr (congrArg (fun n l=>V.c (C.sl n l)) (hln s)) (hfl s)
    rw [Af.h_,hv]at hK;exact DJ.bytes E s hop (Cm hu) hK (by rw [ahy];rfl) hs hb
   ·exact Yl.no
  ·exact Yl.no
 ·exact Yl.no
end Go.PL
set_option linter.all false
namespace Go.PL
open Go Go.RowKit
variable {T:Bo}
def Ad8 {P:Program} {I:World->Prop} (g:Nat) (t:List (List UInt8)) (h:OU I g t):CE T P I where
 f:=0
 ps:=[]
 rs:=[]
 run:=fun _=>none
 ok:=(by grind)
 tab:=some (g,t)
 aqa:=(by grind)
def SY {P:Program} {I:World->Prop} (g:Nat):List (CE T P I)->Option (List (List UInt8))
 | []=>none
 | e::r=>match e.tab with
   | some (g',t)=>match Nat.beq g' g with
     | true=>some t
     | false=>SY g r
   | none=>SY g r
theorem RM {P:Program} {I:World->Prop} {g:Nat} {t:List (List UInt8)}: ∀ {l:List (CE T P I)},SY g l=some t->OU I g t
 | [],h=>nomatch h
 | e::r,h=>by
   unfold SY at h;split at h
   ·rename_i g' t' he;split at h
    ·rename_i hb;injection h with h;subst h;have:=eq_of_beq_eq_true hb;subst this;exact e.aqa _ _ he
    ·exact RM h
   ·exact RM h
def Ad9 (i:Int) (n:Nat):Option Unit:=k_ (0<=i/\i<((n:Nat):Int))
theorem Acd {i:Int} {n:Nat} {u:Unit} (h:Ad9 i n=some u):0<=i/\i<((n:Nat):Int):=Cm h
def dga (P:Program) (o:Oper) (st:Af T):M (Af T):=match o.op with
 | .indexAddr t (.global g) x=>match st.ev x,Gx P t with
   | .c (.k (.int _) i),some (n,_,1)=> .opt (Ad9 i n) fun _=> .ret (st.put o.dst (.c (.c (.agK g (Int.toNat i)))))
   | _,_=> .no
 | _=> .no
def dgl {P:Program} {I:World->Prop} (Γ:List (CE T P I)) (o:Oper) (st:Af T):M (Af T):=match o.op with
 | .load t x=>match st.ev x,K0 P t with
   | .c (.c (.agK g off)),some (false,1)=>match SY g Γ with
     | some tab=> .opt (k_ (off<tab.length)) fun _=> .ret (st.put o.dst (.c (.k .str (tab.getD off []))))
     | none=> .no
   | _,_=> .no
 | _=> .no
theorem Afv {H:As T} {P:Program} {I:World->Prop} {st:Af T} (hw:AH H st) {o:Oper}:Yl (dga P o st) (fun an=>(∃ H',Nx H st H' an)/\an.pre=st.pre/\ ∀ K:St->Prop,K an.toSt->DJ P I o st.toSt K):=by
 unfold dga;split
 ·rename_i t g x hop;split
  ·rename_i k i n E hev ht;refine Yl.opt fun u hu=>?_;obtain⟨H4,n4⟩:=Af.aao hw o.dst (v:= .c (.c (.agK g (Int.toNat i)))) (by simp only [DV.ok,DC.ok]);refine Yl.ret ⟨⟨H4,n4⟩,AS _ _ _,fun K hK=>?_⟩;have ahy:=st.abS x;rw [hev]at ahy;rw [Af.h_]at hK;exact DJ.avB hop (Acd hu) hK (by rw [ahy];rfl) ht
  ·exact Yl.no
 ·exact Yl.no
theorem Afw {H:As T} {P:Program} {I:World->Prop} {Γ:List (CE T P I)} {st:Af T} (hw:AH H st) {o:Oper}:Yl (dgl Γ o st) (fun an=>(∃ H',Nx H st H' an)/\an.pre=st.pre/\ ∀ K:St->Prop,K an.toSt->DJ P I o st.toSt K):=by
 unfold dgl;split
 ·rename_i t x hop;split
  ·rename_i g off hev ht;split
   ·rename_i tab htab;refine Yl.opt fun u hu=>?_;obtain⟨H4,n4⟩:=Af.aao hw o.dst (v:= .c (.k .str (tab.getD off []))) (by simp only [DV.ok,DC.ok]);refine Yl.ret ⟨⟨H4,n4⟩,AS _ _ _,fun K hK=>?_⟩;have ahy:=st.abS x;rw [hev]at ahy;rw [Af.h_]at hK;exact DJ.avA hop (RM htab) (Cm hu) hK (by rw [ahy];rfl) ht
   ·exact Yl.no
  ·exact Yl.no
 ·exact Yl.no
end Go.PL
set_option linter.all false
namespace Go.PL
open Go Go.RowKit
variable {T:Bo}
def gO (st:Af T) (E:Nat):Nat->List (DC T)->Option (List (T.den E)×List Ah)
 | 0,[]=>some ([],[])
 | 0,_::_=>none
 | n+1,cs=>match SU st (T.ks E) (cs.take (T.sz E)),gO st E n (cs.drop (T.sz E))with
   | some (z,rs),some (l,rs')=>some (T.bd E z::l,rs++rs')
   | _,_=>none
structure Ajv (st:Af T) (E:Nat) (cs:List (DC T)) (l:List (T.den E)) (rs:List Ah) (b:Nat) (ars:List AR):Prop where
 ids:ars.map (·.r)=rs
 len:cs.length=l.length*T.sz E
 at_: ∀ x∈ars,st.toSt.look x.r=some x.ent/\b<=x.k/\x.k<b+cs.length/\(Ar cs)[x.k - b]? =some (.e_ x.r)
 ak9: ∀ pre post:List C,pre.length=b->I8 (pre++((Ar cs).map Oa++post)) ars=pre++(l.flatMap (T.aa4 E)++post)
 pure:Ao ((Ar cs).map Oa)=true
 noi:((Ar cs).map Oa).all p9=true
theorem rE (cs:List (DC T)) (n:Nat):Ar cs=Ar (cs.take n)++Ar (cs.drop n):=by grind [CK,List.take_append_drop]
theorem jU (l:List C) (a b:List AR):I8 l (a++b)=I8 (I8 l a) b:=by grind [I8]
theorem aL {st:Af T} {E:Nat}: ∀ {n:Nat} {cs:List (DC T)} {l:List (T.den E)} {rs:List Ah},gO st E n cs=some (l,rs)-> ∀ b:Nat, ∃ ars,Ajv st E cs l rs b ars/\l.length=n
 | 0,[],l,rs,h,b=>by simp only [gO,injEq]at h;injection h with h1 h2;subst h1 h2;exact⟨[],⟨rfl,by simp,(by grind),(fun pre post _=>rfl),rfl,rfl⟩,rfl⟩
 | 0,_::_,_,_,h,_=>by simp [gO]at h
 | n+1,cs,l,rs,h,b=>by
   unfold gO at h;split at h
   ·rename_i z rs1 l' rs' h1 h2;injection h with h;injection h with e1 e2;subst e1 e2;obtain⟨a1,ha⟩:=JF h1 b;obtain⟨a2,hb,hl⟩:=aL h2 (b+T.sz E);have hlen:(cs.take (T.sz E)).length =T.sz E:=ha.len;have hle:T.sz E<=cs.length:=by grind
    have hd:(cs.drop (T.sz E)).length =cs.length - T.sz E:=List.length_drop;have htl:(Ar (cs.take (T.sz E))).length =T.sz E:=by rw [AM,hlen]
    have hsp:=rE cs (T.sz E);have hdz:BR T (T.ks E) z=T.aa4 E (T.bd E z):=by rw [Bo.aa4,T.afv]
    refine⟨a1++a2,⟨by rw [map_append,ha.ids,hb.ids],?_,fun x hx=>?_,fun pre post hp=>?_,?_,?_⟩,by simp [hl]⟩
    ·have:=hb.len;simp_all [Nat.add_mul]
    ·rcases List.mem_append.1 hx with hx | hx
     ·obtain⟨p1,p2,p3,p4⟩:=ha.at_ x hx;grind
     ·obtain⟨p1,p2,p3,p4⟩:=hb.at_ x hx;grind
    ·rw [hsp,map_append,List.append_assoc,jU,ha.ak9 pre _ hp,hdz];have:=hb.ak9 (pre++T.aa4 E (T.bd E z)) post (by grind [Eo]);grind
    ·rw [hsp,map_append,BT,ha.pure,hb.pure];rfl
    ·rw [hsp,map_append,List.all_append,ha.noi,hb.noi];rfl
   ·cases h
theorem Is {E:Nat} {n:Int}: ∀ {l:List (T.den E)} {k:Int},k+l.length<=n->AC T E n k l=l.flatMap (T.aa4 E)
 | [],_,_=>rfl
 | x::l,k,h=>by simp only [List.length_cons]at h;rw [AC,if_pos (by omega),Is (by omega),List.flatMap_cons]
def aM (rs:List Ah) (r i:Ah):Bool:=match Bf i r with
 | true=>true
 | false=>match Bf i (1000003::r)with
   | true=>true
   | false=>Vs rs (1000003::r) i
theorem Pe {rs:List Ah} {r i:Ah} (h:aM rs r i=false):i ≠ r/\i ≠ 1000003::r/\Vs rs (1000003::r) i=false/\DF (1000003::r) i=false:=by
 unfold aM at h;split at h
 ·cases h
 ·rename_i h1;split at h
  ·cases h
  ·rename_i h2;refine⟨(by grind [AN]),(by grind [AN]),h,?_⟩;have: ∀ rs:List Ah,Vs rs (1000003::r) i=false->DF (1000003::r) i=false:=by intro rs;induction rs<;>grind [Vs,Li]
   grind
def dsb (P:Program) (o:Oper) (st:Af T):M (Af T):=match o.op,o.dst with
 | .buildSlice t len ps,some d=>match Ej P t,Hs st [] ps.toList with
   | some (E,n,_),some vs=>match Rx P E with
     | some z=>match W3 (fun i=>some (i*n,n)) ((List.replicate len z).flatMap id) (vs.map fun x=>(x.1,Vc x.2))with
       | some cs=>match gO st E len cs with
         | some (l,rs)=>Tf ((Nat.beq n (T.sz E)&&(Nat.beq z.length n&&(Nat.blt 0 n&&Nat.ble (len*n) (2 ^ 24))))&&(Nat.blt 0 len&&(M5 rs&&(!RC rs (d::st.pre)&&(!Fh (d::st.pre)&& !C4 (d::st.pre))))))
          (.ret ((Bp [(1000003::d::st.pre, .deep E (l.length:Nat) l none)] (st.acT (aM rs (d::st.pre)))).put (some d) (.c (.c (.e_ (1000003::d::st.pre))))))
         | none=> .no
       | none=> .no
     | none=> .no
   | _,_=> .no
 | _,_=> .no
theorem Pf {p q:Ah->Bool} (h: ∀ i,q i=true->p i=true) {v:V} (hv:v.f_ p=false):BD q v=v:=by unfold BD;rw [if_neg (by rw [FS h v hv];simp)]
theorem jV {p:Ah->Bool} {r:Ah} (hr:p r=true) {v:V} (hv:v.f_ p=false):Ff r v=v:=by grind [Ff,jk]
theorem gB.put {p:Ah->Bool} {id:Ah} {ns:List Ah} {new:Aw} {A B:St} (h:gB p id ns new A B) (d:Nat) {v:V} (hv:v.f_ p=false):gB p id ns new (A.put (some d) v) (B.put (some d) v):=by refine⟨by simp [St.put,h.len],fun i=>?_,h.aok,h.gh,h.so,h.nd,h.pre⟩;have hl:=h.len;have:=h.tm i;simp only [St.put,List.getD_eq_getElem?_getD,getElem?_set,hl]at this ⊢;grind
theorem Afx {H:As T} {P:Program} {I:World->Prop} {st:Af T} (hw:AH H st) {o:Oper}:Yl (dsb P o st) (fun an=>(∃ H',Nx H st H' an)/\an.pre=st.pre/\ ∀ K:St->Prop,K an.toSt->DJ P I o st.toSt K):=by
 unfold dsb;split
 ·rename_i t len ps d hop hd;split
  ·rename_i E n by' vs abq hp;split
   ·rename_i z hz;split
    ·rename_i cs hf;split
     ·rename_i l rs hea;refine Yl.Tf fun hg=>?_;simp only [and_eq_true,beq_eq,blt_eq,ble_eq,not_eq_true']at hg;obtain⟨⟨g1,g2,g3,g4⟩,g5,g6,g7,g8,g9⟩:=hg;subst g1;generalize hr0:d::st.pre=r0 at g7 g8 g9 ⊢;have hrs:r0∉rs:=(by grind [RE]);obtain⟨ars,ha,hl⟩:=aL hea 0;obtain⟨⟨H1,n1⟩,k4,k5⟩:=Ni hw (aM rs r0);obtain⟨H2,n2⟩:=JE (l:=[(1000003::r0,DX.deep E (l.length:Nat) l none)]) n1 (fun p hp=>by rcases mem_singleton.1 hp with rfl;trivial) (by simp) (fun p hp e he q=>by rcases mem_singleton.1 hp with rfl;have:=(Pe (k5 e he).2.1).2.1;exact this q)
      obtain⟨s1,s2,s3,s4,s5,_⟩:=Ey [(1000003::r0,DX.deep E (l.length:Nat) l none)] (st.acT (aM rs r0));obtain⟨H3,n3⟩:=Af.D_ n2 (some d) (v:= .c (.c (.e_ (1000003::r0)))) (by simp only [DV.ok,DC.ok]);refine Yl.ret ⟨⟨H3,n3⟩,by grind [AS],fun K hK F a w G Q hI hR=>?_⟩;obtain⟨p1,p2,p3⟩:=Gb (key:=[]) hw (fun _ hl=>by cases hl) rfl hp;obtain⟨z1,z2⟩:=Ip hz;obtain⟨f1,_⟩:=Kk hf;rw [Rz z (by omega),ZX]at f1;change (st.toSt.parts true ps.toList).1 at p2;change (st.toSt.parts true ps.toList).2=nc vs at p3;rw [<-p3]at f1;obtain⟨abh,q1,q2,q3,q4,q5⟩:=J3 hR abq z1 f1 p2 (by rw [AM];exact g2) g3 g4;have q_:(execOp a.eval o).run P w= .ok (.value (.slice (some ⟨w.heap.size,0,none⟩) len len)) (w.alloc (.cells abh E)):=by simp [execOp,hop,q1]
      have hml:((Ar cs).map Oa).length =len*T.sz E:=by grind
      have z_:=hR.row r0 E (T.sz E) len len ((Ar cs).map Oa) abh abh.toList (aB q2) (by grind) hml q4 (le_refl _) q5 true (fun _=>ha.pure);have au6:(⟨r0,some (E,T.sz E,len),(Ar cs).map Oa,true⟩:Aw)∈(st.toSt.new ⟨r0,some (E,T.sz E,len),(Ar cs).map Oa,true⟩).so :=by grind [St.new,Wy,Aw.kill]
      have azi:=z_.ad8 au6 rfl g8 rfl;obtain⟨G2,h2,h3,h4⟩:=z_.amh azi rfl rfl ha.noi (id:=1000003::r0) rfl rfl;have aam:G2.own (1000003::r0)=some (.slice (some ⟨w.heap.size,0,none⟩) len len):=by rw [h3];simp [B9]
      have hL:=h2.I_ List.mem_cons_self rfl rfl;have hb:G2.m_ (1000003::r0)=some w.heap.size:=by obtain⟨hm,_⟩:=P5 hL;have hE:=h2.store _ hm;grind [Bc]
      have h5:=h2.put (d:=some d) (v:= .slice (some ⟨w.heap.size,0,none⟩) len len) (x:= .c (.e_ (1000003::r0))) (by simp only [Ab,Ad];exact⟨aam,rfl⟩);have hL5:=h5.I_ (e:=⟨1000003::r0,some (E,T.sz E,len),(Ar cs).map Oa,true⟩) (id:=1000003::r0) (by simp only [St.put];exact List.mem_cons_self) rfl rfl;have abr: ∀ e∈st.toSt.so,e.id ≠ r0->e.id ≠ 1000003::r0->(e.pu=true\/CJ (aM rs r0) e.cs=false)->e∈((st.toSt.new ⟨r0,some (E,T.sz E,len),(Ar cs).map Oa,true⟩).b_ (fun i=>i==r0||(i==1000003::r0||DF (1000003::r0) i)) (⟨1000003::r0,some (E,T.sz E,len),(Ar cs).map Oa,true⟩::(((st.toSt.new ⟨r0,some (E,T.sz E,len),(Ar cs).map Oa,true⟩).so.filter (fun d=>d.id != r0&&d.id != 1000003::r0)).map (Aw.b_ (fun i=>i==r0||(i==1000003::r0||DF (1000003::r0) i)))))).so :=by
       intro e he e1 e2 e3;simp only [St.b_,mem_cons,mem_map,mem_filter];right;have hk:e.kill r0=e:=by
        obtain⟨i,r,c,pu⟩:=e;cases pu with
        | true=>rfl
        | false=>
          rcases e3 with e3 | e3
          ·cases e3
          ·exact Aw.agE (by
            simp only [Aw.fre,Bool.false_or,not_eq_true'];cases hq:BP r0 c with
            | false=>rfl
            | true=>
              have:=Zh (aM rs r0) r0 c e3 hq;simp [aM,AN.2 rfl]at this)
       have hkp:e.b_ (fun i=>i==r0||(i==1000003::r0||DF (1000003::r0) i))=e:=by
        obtain⟨i,r,c,pu⟩:=e;cases pu with
        | true=>rfl
        | false=>
          rcases e3 with e3 | e3
          ·cases e3
          ·simp only [Aw.b_,Aw.mk.injEq,true_and,and_true];grind [Vl,FR,aM,Pe]
       grind [St.new,Wy,St.kill]
      have ag1: ∀ i,(i==r0||(i==1000003::r0||DF (1000003::r0) i))=true->aM rs r0 i=true:=(by grind [aM,Pe]);have aqD: ∀ i,Vs rs (1000003::r0) i=true->aM rs r0 i=true:=(by grind [Pe]);have aqE:aM rs r0 r0=true:=by grind
      have ajD: ∀ v:V,v.f_ (aM rs r0)=false->BD (fun i=>i==r0||(i==1000003::r0||DF (1000003::r0) i)) (Ff r0 v)=v:=(by grind [jV,Pf]);have azN:(C.e_ (1000003::r0)).f_ (Vs rs (1000003::r0))=false:=by
       simp only [C.f_];have: ∀ rs':List Ah,(∀ x∈rs',Fh x=false)->Vs rs' (1000003::r0) (1000003::r0)=false:=by
        intro rs';induction rs' with
        | nil=>
          intro _;simp only [Vs,Li];cases hq:DF (1000003::r0) (1000003::r0)with
          | false=>rfl
          | true=>have:=Fp hq;cases this
        | cons y rs' ih=>
          intro hy;simp only [Vs];split
          ·rename_i hq;have:=AN.1 hq;have h8:=hy y (by simp);rw [<-this]at h8;cases h8
          grind
       refine this rs fun x hx=>?_;rw [<-ha.ids]at hx;obtain⟨ar,har,rfl⟩:=mem_map.1 hx;exact FG (ha.at_ ar har).1
      obtain⟨G',q⟩:=h5.ahF (p:=Vs rs (1000003::r0)) ars hL5 hb (fun ar har=>by
       obtain⟨p1,_,p3',p4⟩:=ha.at_ ar har;obtain⟨hmr,ag3⟩:=Bj p1;have hnd:=FG p1;have hin:ar.r∈rs:=by rw [<-ha.ids];grind
       have hrr:ar.r ≠ r0:=(by grind);have hrD:ar.r ≠ 1000003::r0:=fun q=>by rw [q]at hnd;cases hnd
       obtain⟨v,v1,v2⟩:=aD q2 p4;simp only [Ad]at v2;refine⟨h5.ad8 (abr _ hmr (by grind) (by grind) (.inl rfl)) ag3 hnd rfl,by grind,jS hin,v,?_,?_⟩
       all_goals simp_all [B9]) (by rw [ha.ids];exact Ii g6) ((Bp [(1000003::r0,DX.deep E (l.length:Nat) l none)] (st.acT (aM rs r0))).put (some d) (.c (.c (.e_ (1000003::r0))))).toSt (by
       rw [Af.h_];refine gB.put ?_ d (by grind [V.f_]);have aas:dm (1000003::r0,(DX.deep E (l.length:Nat) l none:DX T))=⟨1000003::r0,some (E,T.sz E,len),I8 ((Ar cs).map Oa) ars,true⟩:=by show (⟨1000003::r0,some (E,T.sz E,l.length),AC T E (l.length:Nat) 0 l,true⟩:Aw)=_;have:=ha.ak9 [] [] rfl;grind [Is]
       have etm:(Bp [(1000003::r0,DX.deep E (l.length:Nat) l none)] (st.acT (aM rs r0))).toSt.tm =(st.acT (aM rs r0)).toSt.tm :=by grind [Af.toSt]
       have egh:(Bp [(1000003::r0,DX.deep E (l.length:Nat) l none)] (st.acT (aM rs r0))).toSt.gh =(st.acT (aM rs r0)).toSt.gh :=by simp only [Af.toSt,s2]
       have hz2: ∀ (r:Ah),Ff r .undef = .undef :=fun r=>by simp [Ff,V.p_]
       have hz3: ∀ (p:Ah->Bool),BD p .undef = .undef :=fun p=>by simp [BD,V.f_]
       have gm: ∀ (m:List V) (f:V->V),f .undef = .undef -> ∀ i,(m.map f).getD i .undef =f (m.getD i .undef):=(by grind);refine⟨?_,fun i=>?_,?_,fun i=>?_,fun x hx=>?_,FH n2.ok,?_⟩
       ·rw [etm];show (AD _ _).length =_;simp only [St.b_,St.new,St.kill,List.length_map,BB];show _=(AD _ _).length;rw [BB];rfl
       ·rw [etm];rcases az (p:=aM rs r0) st.m st.nx st.tm i with q | ⟨q,q'⟩
        ·exact .inl q
        ·right;have e:(St.b_ (st.toSt.new ⟨r0,some (E,T.sz E,len),(Ar cs).map Oa,true⟩) (fun i=>i==r0||(i==1000003::r0||DF (1000003::r0) i)) (⟨1000003::r0,some (E,T.sz E,len),(Ar cs).map Oa,true⟩::(((st.toSt.new ⟨r0,some (E,T.sz E,len),(Ar cs).map Oa,true⟩).so.filter (fun d=>d.id != r0&&d.id != 1000003::r0)).map (Aw.b_ (fun i=>i==r0||(i==1000003::r0||DF (1000003::r0) i)))))).tm.getD i .undef =st.toSt.tm.getD i .undef :=by simp only [St.b_,St.new,St.kill];rw [gm _ _ (hz3 _),gm _ _ (hz2 _)];exact ajD _ q'
         rw [e];exact⟨q,FS aqD _ q'⟩
       ·rw [egh];have:=(nK (p:=aM rs r0) st.gh (st.nx+st.tm.length)).1;simp only [St.b_,St.new,St.kill,List.length_map];exact this
       ·rw [egh];rcases (nK (p:=aM rs r0) st.gh (st.nx+st.tm.length)).2 i with q | ⟨q,q'⟩
        ·exact .inl q
        ·right;have e:(St.b_ (st.toSt.new ⟨r0,some (E,T.sz E,len),(Ar cs).map Oa,true⟩) (fun i=>i==r0||(i==1000003::r0||DF (1000003::r0) i)) (⟨1000003::r0,some (E,T.sz E,len),(Ar cs).map Oa,true⟩::(((st.toSt.new ⟨r0,some (E,T.sz E,len),(Ar cs).map Oa,true⟩).so.filter (fun d=>d.id != r0&&d.id != 1000003::r0)).map (Aw.b_ (fun i=>i==r0||(i==1000003::r0||DF (1000003::r0) i)))))).gh.getD i .undef =st.toSt.gh.getD i .undef :=by simp only [St.b_,St.new,St.kill];rw [gm _ _ (hz3 _),gm _ _ (hz2 _)];exact ajD _ q'
         rw [e];exact⟨q,FS aqD _ q'⟩
       ·rw [s5]at hx;simp only [map_cons,map_nil,List.singleton_append,mem_cons]at hx;rcases hx with rfl | hx
        ·grind
        ·right;obtain⟨e,he,rfl⟩:=mem_map.1 hx;obtain⟨c1,c2,c3⟩:=k5 e he;obtain⟨t1,t2,t3,_⟩:=Pe c2;have hpm:e.toE.pu=true\/CJ (aM rs r0) e.toE.cs=false:=by
          unfold DE.toE;cases hx:e.x with
          | box cs=>
            right;rw [hx]at c3;simpa only [DX.f_,Gn] using c3
          | row E l=>grind
          | deep E n l h=>grind
         refine⟨abr _ (mem_map.2 ⟨e,c1,rfl⟩) (by rw [DE.toE_id];exact t1) (by rw [DE.toE_id];exact t2) hpm,by rw [DE.toE_id];exact t2,?_,(by grind [FR])⟩;rw [DE.toE_id,ha.ids];grind [YB]
       ·show (Bp _ _).pre =st.pre;grind)
      grind [AJ]
     ·exact Yl.no
    ·exact Yl.no
   ·exact Yl.no
  ·exact Yl.no
 ·exact Yl.no
end Go.PL
set_option linter.all false
namespace Go.PL
open Go Go.RowKit
mutual
theorem uf (p q:Ah->Bool): ∀ c:C,c.f_ (fun i=>p i||q i)=(c.f_ p||c.f_ q)
 | .e_ _=>rfl
 | .ptr _ _=>rfl
 | .rsl _ _ _ _=>rfl
 | .bsl _ _ _=>rfl
 | .bld _ _=>rfl
 | .agA _=>rfl
 | .clo _ cs=>by simp only [C.f_];exact aO p q cs
 | .bmv _ cs=>by simp only [C.f_];exact aO p q cs
 | .int .. =>rfl
 | .bool _=>rfl
 | .str _=>rfl
 | .sl .. =>rfl
 | .abQ .. =>rfl
 | .acu =>rfl
 | .aak =>rfl
 | .s_ =>rfl
 | .fn _=>rfl
 | .held =>rfl
 | .any =>rfl
 | .agK .. =>rfl
 | .mp _=>rfl
 | .isl .. =>rfl
theorem aO (p q:Ah->Bool): ∀ cs:List C,CJ (fun i=>p i||q i) cs=(CJ p cs||CJ q cs)
 | []=>rfl
 | c::cs=>by simp only [CJ,uf p q c,aO p q cs];cases c.f_ p<;>cases c.f_ q<;>cases CJ p cs<;>rfl
end
theorem wD (p q:Ah->Bool) (c:C):Cr q (Cr p c)=Cr (fun i=>p i||q i) c:=by
 unfold Cr;rw [uf];cases h:c.f_ p
 ·simp
 ·simp [C.f_]
theorem Aw.anN (p q:Ah->Bool) (e:Aw):(e.b_ p).b_ q=e.b_ (fun i=>p i||q i):=by
 obtain⟨i,r,cs,_ | _⟩:=e
 ·simp only [Aw.b_,map_map,Aw.mk.injEq,true_and,and_true];exact List.map_congr_left fun c _=>wD p q c
 ·rfl
def nP (q id i:Ah):Bool:=i==q||(DF q i||DF id i)
def qc (q id:Ah) (off:Nat) (i:Ah):Option Ah:=if i=q then none else match i with
 | m::k::r=>if m=1000007 then(if r=q then none else if r=id/\off<=k then some (1000007::(k - off)::q)else some (m::k::r))else some (m::k::r)
 | i=>some i
theorem yV (k:Nat) (i:Ah):BO k i=1000007::k::i:=rfl
theorem Afy {q id:Ah} {off k:Nat} (hq:C4 q=false) (Tj:id ≠ q):qc q id off (BO (off+k) id)=some (BO k q):=by unfold qc;rw [if_neg (CL hq _).symm];simp [yV,Tj]
theorem Afz {q id:Ah} {off k:Nat} (hq:C4 q=false) (Tj:id ≠ q) (hk:k<off):qc q id off (BO k id)=some (BO k id):=by unfold qc;rw [if_neg (CL hq _).symm];simp [yV,Tj];omega
theorem yW {q id:Ah} {off:Nat} {i:Ah} (h:nP q id i=false):qc q id off i=some i:=by
 simp only [nP,or_eq_false_iff,beq_eq_false_iff_ne]at h;obtain⟨h1,h2,h3⟩:=h;unfold qc;rw [if_neg h1];split
 ·rename_i m k r;split
  ·rename_i hm;subst hm;have a1:r ≠ q:=fun e=>by subst e;simp [DF]at h2
   have a2:r ≠ id:=fun e=>by subst e;simp [DF]at h3
   rw [if_neg a1,if_neg (fun e=>a2 e.1)]
  ·rfl
 ·rfl
theorem Ace {q id:Ah} {off:Nat} {i j a:Ah} (h1:qc q id off i=some a) (h2:qc q id off j=some a):i=j:=by
 have key: ∀ i a,qc q id off i=some a->(i=a/\(∀ k,a ≠ 1000007::k::q))\/ ∃ k,i=1000007::(off+k)::id/\a=1000007::k::q:=by
  intro i a h;have short: ∀ i:Ah,i.length<2->qc q id off i=some a->i=a:=fun i hi h=>by
   rcases i with _ | ⟨m,_ | ⟨k,r⟩⟩
   ·simp only [qc]at h;split at h<;>simp_all
   ·simp only [qc]at h;split at h<;>simp_all
   ·simp at hi;omega
  by_cases hl:i.length<2
  ·have:=short i hl h;subst this;exact .inl ⟨rfl,fun k e=>by rw [e]at hl;simp at hl;omega⟩
  ·rcases i with _ | ⟨m,_ | ⟨k,r⟩⟩
   ·simp at hl
   ·simp at hl
   ·simp only [qc]at h;split at h
    ·cases h
    ·split at h
     ·rename_i hm;subst hm;split at h
      ·cases h
      ·rename_i hr;split at h
       ·rename_i hh;injection h with h;exact .inr ⟨k - off,by rw [hh.1];congr 2;omega,h.symm⟩
       ·injection h with h;exact .inl ⟨h,fun k' e=>by rw [<-h]at e;injection e with _ e;injection e with _ e;exact hr e⟩
     ·rename_i hm;injection h with h;exact .inl ⟨h,fun k' e=>by rw [<-h]at e;injection e with e _;exact hm e⟩
 rcases key i a h1 with ⟨e1,f1⟩ | ⟨k,e1,f1⟩<;>rcases key j a h2 with ⟨e2,f2⟩ | ⟨k',e2,f2⟩
 ·rw [e1,e2]
 ·exact absurd f2 (f1 k')
 ·exact absurd f1 (f2 k)
 ·rw [f1]at f2;injection f2 with _ f2;injection f2 with f2 _;rw [e1,e2,f2]
def xq:C->C
 | .isl .. => .any
 | c=>c
theorem nQ: ∀ {cs:List C},Ao cs=true->Ao (cs.map xq)=true
 | [],_=>rfl
 | c::cs,h=>by simp only [map_cons,Ao,and_eq_true]at h ⊢;exact⟨by cases c<;>first | exact h.1 | rfl,nQ h.2⟩
theorem uh: ∀ cs:List C,(cs.map xq).all p9=true
 | []=>rfl
 | c::cs=>by simp only [map_cons,all_cons,and_eq_true];exact⟨by cases c<;>rfl,uh cs⟩
theorem nR {w:World} {G:AG}: ∀ {cs:List C} {vs:List Value},Aj w G cs vs->Aj w G (cs.map xq) vs
 | [],[],_=>by simp [Aj]
 | [],_::_,h=>by simp [Aj]at h
 | _::_,[],h=>by simp [Aj]at h
 | c::cs,v::vs,h=>by simp only [Aj,map_cons]at h ⊢;exact⟨by cases c<;>exact h.1,nR h.2⟩
theorem aP {w:World} {G:AG}: ∀ {cs:List C} {b o:Nat},An w G (cs.map xq) b o↔An w G cs b o
 | [],_,_=>Iff.rfl
 | c::cs,b,o=>by simp only [map_cons,An,aP (cs:=cs)];cases c<;>exact Iff.rfl
section
variable {F:Fr} {st:St} {a:Act} {w:World} {G:AG}
theorem R.anF (h:R F st a w G) {id q:Ah} {e eq:Aw} (hl:st.IN id=some e) (hq:st.IN q=some eq) (Tj:id ≠ q) {b off:Nat} (hb:G.m_ id=some b) (acy:off<=e.cs.length) (hdr:e.cs.drop off=eq.cs.map xq)
 (abH: ∀ k E n len cs v,eq.cs[k]? =some (.isl E n len cs)->G.own (BO k q)=some v->w.cell? ⟨b,off+k,none⟩=some v):
 ∃ G',R F (st.b_ (nP q id) (((st.so.filter (fun d=>d.id != q)).map (Aw.b_ (nP q id))).map (Tl id e.row (e.cs.take off++eq.cs)))) a w G'/\G'.own id=G.own id:=by
 obtain⟨hm,hid,hd,hmk,hpu,hpe,hi,E0,n0,ahY,hr0⟩:=h.aa3 hl;obtain⟨hmq,avf,hdq,apN,aGK,ay_,hiq,_⟩:=h.aa3 hq;let G':AG:=⟨fun i=>(qc q id off i).bind G.m_,fun i=>(qc q id off i).bind G.own,fun b=>F.av b\/ ∃ i,(qc q id off i).bind G.m_=some b⟩;have hag: ∀ i,nP q id i=false->G'.m_ i=G.m_ i/\G'.own i=G.own i:=by intro i hpi;simp only [G',yW hpi,Option.bind_some,and_self]
 have t:aaT F (nP q id) (fun _=>false) G G' w w:=Ho h G' rfl hag (fun i b hib=>by
  obtain⟨j,_,hj⟩:=bind_eq_some_iff.1 hib;exact⟨j,hj⟩) (fun i j b hib hjb=>by
  obtain⟨x,hx,hx2⟩:=bind_eq_some_iff.1 hib;obtain⟨y,hy,hy2⟩:=bind_eq_some_iff.1 hjb;have:=h.inj _ _ b hx2 hy2;subst this;exact Ace hx hy)
 have pid:nP q id id=false:=by
  have h1:DF q id=false:=by
   cases hh:DF q id with
   | false=>rfl
   | true=>rw [Fp hh]at hmk;cases hmk
  have h2:DF id id=false:=by
   cases hh:DF id id with
   | false=>rfl
   | true=>rw [Fp hh]at hmk;cases hmk
  simp [nP,Tj,h1,h2]
 have gid:=hag id pid;have ghi: ∀ k,G'.m_ (BO (off+k) id)=G.m_ (BO k q)/\G'.own (BO (off+k) id)=G.own (BO k q):=fun k=>by simp only [G',Afy apN Tj,Option.bind_some,and_self]
 have glo: ∀ k,k<off->G'.m_ (BO k id)=G.m_ (BO k id)/\G'.own (BO k id)=G.own (BO k id):=fun k hk=>by simp only [G',Afz apN Tj hk,Option.bind_some,and_self]
 obtain⟨E1,n1,aj4,v1,ab7,aiL,g1,g2,g3,g4,g5,g6,g7,g8,g9⟩:=h.aed hl hb;have hcells:Ao (e.cs.take off++eq.cs)=true:=by rw [BT,ay_,Bool.and_true];rw [Cf,all_eq_true]at hpe ⊢;exact fun c hc=>hpe c (List.mem_of_mem_take hc)
 have hlen:(e.cs.take off++eq.cs).length =e.cs.length:=by have:=congrArg List.length hdr;simp at this ⊢;omega
 have hno: ∀ cs:List C,Ao cs=true->JQ (fun i=>BP i cs=true) G G':=fun cs hp i hi'=>absurd (show BP i cs=true from hi') (by rw [AP i cs hp];simp);have afC:Bc w G' ⟨id,e.row,e.cs.take off++eq.cs,true⟩:=by
  unfold Bc;rw [g1];refine⟨by rw [hlen];grind,v1,by grind, .inr ⟨b,ab7,aiL,g4,by grind,g5,g6,g7,g8,?_⟩⟩;have h9:=An.mono t.keeps _ _ _ (hno _ hpe) (fun _=>rfl) g9;rw [<-aP]at h9 ⊢;have:(e.cs.take off++eq.cs).map xq=e.cs.map xq:=by
   rw [map_append, <-hdr];have e1:(e.cs.drop off).map xq=e.cs.drop off:=by rw [hdr,map_map];exact List.map_congr_left fun c _=>by cases c<;>rfl
   rw [<-e1, <-map_append,List.take_append_drop]
  rw [this];exact h9
 have hin:EU w G' ⟨id,e.row,e.cs.take off++eq.cs,true⟩:=by
  intro j E2 n2 abo cs2 hj;by_cases hjo:j<off
  ·rw [List.getElem?_append_left (by simp;omega),List.getElem?_take_of_lt hjo]at hj;obtain⟨k1,k2,b2,v2,k3,k4,k5⟩:=h.inner hl hj;have gjj:=glo j hjo;exact⟨k1,Cx t.keeps (hno _ k1) gjj (fun _ _=>rfl) k2,b2,v2,by rw [gid.1];exact k3,k4,by rw [gjj.2];exact k5⟩
  ·obtain⟨k,rfl⟩: ∃ k,j=off+k:=⟨j - off,by omega⟩;rw [List.getElem?_append_right (by simp;omega),List.length_take,Nat.min_eq_left acy,Nat.add_sub_cancel_left]at hj;obtain⟨k1,k2,b2,v2,k3,k4,k5⟩:=h.inner hq hj;obtain⟨gh1,gh2⟩:=ghi k;exact⟨k1,jz t.keeps k1 gh1 gh2 k2,b,v2,by rw [gid.1];exact hb,abH _ _ _ _ _ _ hj k5,by rw [gh2];exact k5⟩
 have Tq:=t.alI h hl (fun d=>d.id != q) (fun d hd' hf adF=>by
  have hdm:=(h.deep d hd').1;have hdq:d.id ≠ q:=by simpa using hf
  have ofF: ∀ x,DF x d.id=false:=fun x=>by
   cases hh:DF x d.id with
   | false=>rfl
   | true=>rw [Fp hh]at hdm;cases hdm
  refine⟨by simp [nP,hdq,ofF],rfl,fun _ k=>⟨?_,rfl⟩⟩;have:BO k d.id ≠ q:=(CL apN k).symm;simp [nP,this,IR,hdq,adF]) (by rw [g1];rfl) afC hin hcells
 exact⟨G',t.af1 h _ Tq.1 Tq.2.1 Tq.2.2.1 Tq.2.2.2,gid.2⟩
end
variable {T:Bo}
def rF:Option (DC T)->Bool
 | some (.c .s_)=>true
 | _=>false
def Acf (i:Ah) (j:Nat) (k:Ah) (s:Af T):Option (Af T):=match Ld s i with
 | some cs=>match rF cs[j]? with
   | true=>some (s.abn i (.box (cs.set j (.c (.e_ k)))))
   | false=>none
 | none=>none
def Af.own (st:Af T) (i:Ah) (j:Nat) (k:Ah) (E:Nat):Option (Af T):=match k with
 | 1000003::k0=>match st.new k0 (.row E [])with
   | some s=>match dpn k0 s with
     | some s=>Acf i j (1000003::k0) s
     | none=>none
   | none=>none
 | k=>match st.new k (.row E [])with
   | some s=>Acf i j k s
   | none=>none
theorem nS {o:Option (DC T)} (h:rF o=true):o=some (.c .s_):=by grind [rF]
theorem gP {H:As T} {s s':Af T} {i k:Ah} {j:Nat} (h:AH H s) (ho:Acf i j k s=some s'):(∃ H',Nx H s H' s')/\s'.pre=s.pre/\ ∀ (F:Fr) (a:Act) (w:World) (G:AG),R F s.toSt a w G->G.own k=some (.slice none 0 0)->R F s'.toSt a w G:=by
 unfold Acf at ho;split at ho
 ·rename_i cs hb;split at ho
  ·rename_i hn;injection ho with ho;subst ho;have hc:=nS hn;have hok:(DX.box (cs.set j (.c (.e_ k)))).ok :=C8.2 fun c hm=>by
    rcases List.mem_or_eq_of_mem_set hm with q | q
    ·exact C8.1 (SI h hb) c q
    grind [DC.ok]
   obtain⟨H2,n2⟩:=Af.abk h i hok;refine⟨⟨H2,n2⟩,rfl,fun F a w G hR ho=>?_⟩;obtain⟨hl,_,e,e1,e2,e3⟩:=Hr hb;have an8:s.toSt.aj3 i j=true:=by
    unfold St.aj3;rw [hl];have:(Ar cs)[j]? =some .s_ :=by rw [CK,List.getElem?_map,hc];rfl
    grind
   have aiA:(s.abn i (.box (cs.set j (.c (.e_ k))))).toSt =s.toSt.setCell i j (.e_ k):=by
    have hF:=ZU (t:=s.nx) (x:= .box (cs.set j (.c (.e_ k)))) (F:=fun e=>if e.id==i&& !e.pu then⟨e.id,e.row,e.cs.set j (.e_ k),false⟩else e) (id:=i)
     (by grind) h.nd e1 e2 (by
      rw [DE.toE_box e3];simp_all [DE.toE,CK,DC.toC])
    simp_all [Af.toSt,Af.abn,St.setCell]
   rw [aiA];exact hR.setCell an8 ho
  ·cases ho
 ·cases ho
theorem yX {H:As T} {st an:Af T} {i k:Ah} {j E:Nat} (h:AH H st) (ho:st.own i j k E=some an):(∃ H',Nx H st H' an)/\Wk st.toSt an.toSt/\an.pre=st.pre:=by
 unfold Af.own at ho;split at ho
 ·rename_i k0;split at ho
  ·rename_i s hs;split at ho
   ·rename_i s2 hs2;obtain⟨⟨H1,n1⟩,h2,h3⟩:=Af.acv h (x:= .row E []) trivial hs;obtain⟨⟨H2,n2⟩,p2,k2⟩:=nL n1.ok hs2;obtain⟨⟨H3,n3⟩,p3,k3⟩:=gP n2.ok ho;refine⟨⟨H3,(n1.trans n2).trans n3⟩,?_,by rw [p3,p2,h3]⟩;intro F a w G hR;have q1:=hR.alg k0 E (T.sz E);have e5:(⟨k0,0,DX.row E []⟩:DE T).toE =⟨k0,some (E,T.sz E,0),[],true⟩:=rfl;rw [e5]at h2;obtain⟨G',g1,g2⟩:=k2 _ _ _ _ (q1.less h2);exact⟨G',k3 _ _ _ _ g1 (by rw [g2];simp [B9])⟩
   ·cases ho
  ·cases ho
 ·split at ho
  ·rename_i s hs;obtain⟨⟨H1,n1⟩,h2,h3⟩:=Af.acv h (x:= .row E []) trivial hs;obtain⟨⟨H3,n3⟩,p3,k3⟩:=gP n1.ok ho;refine⟨⟨H3,n1.trans n3⟩,?_,by rw [p3,h3]⟩;intro F a w G hR;have q1:=hR.alg k E (T.sz E);have e5:(⟨k,0,DX.row E []⟩:DE T).toE =⟨k,some (E,T.sz E,0),[],true⟩:=rfl;rw [e5]at h2;exact⟨_,k3 _ _ _ _ (q1.less h2) (by simp [B9])⟩
  ·cases ho
def nT:List (Ah×Nat×Ah×Nat)->Af T->Option (Af T)
 | [],st=>some st
 | (i,j,k,E)::r,st=>match st.own i j k E with
   | some s=>nT r s
   | none=>none
theorem gQ {H0:As T} {st0:Af T}: ∀ {l:List (Ah×Nat×Ah×Nat)} {st an:Af T} {H:As T},Nx H0 st0 H st->nT l st=some an->(∃ H',Nx H0 st0 H' an)/\Wk st.toSt an.toSt/\an.pre=st.pre
 | [],st,an,H,hN,h=>by simp only [nT,injEq]at h;subst h;exact⟨⟨H,hN⟩,Wk.less (Cp.refl _),rfl⟩
 | (i,j,k,E)::r,st,an,H,hN,h=>by
   simp only [nT]at h;split at h
   ·rename_i s hs;obtain⟨⟨H1,n1⟩,w1,p1⟩:=yX hN.ok hs;obtain⟨a,b,c⟩:=gQ (hN.trans n1) h;exact⟨a,w1.trans b,c.trans p1⟩
   ·cases h
def RN (q id i:Ah):Bool:=match Bf i id with
 | true=>true
 | false=>match Bf i q with
   | true=>true
   | false=>match LM.aeK q i with
     | true=>true
     | false=>LM.aeK id i
theorem jW (q id:Ah):RN q id=fun i=>(i==id)||nP q id i:=by funext i;unfold RN nP;simp only [Li,CT];cases i==id<;>cases i==q<;>cases DF q i<;>rfl
def dad (P:Program) (o:Oper) (st:Af T):M (Af T):=match o.op,o.dst with
 | .call c,some d=>match c.callee,c.args.toList,c.argTypes.toList with
   | .builtin .append,[u,x],[t,t']=>match st.arg [] u,st.arg [] x,Ej P t with
     | some (.c (.c (.e_ id))),some (.c (.c (.e_ q))),some (E',n,by')=>match Kh st id,Kh st q with
       | some ⟨E,(nn,l,none)⟩,some ⟨E2,(mm,m,none)⟩=>match ax E E2 m with
         | some m'=>Tf (Nat.beq t t'&&(Nat.beq E' E&&(Nat.beq n (T.sz E)&&(Nat.blt 0 n&&(Fh id&&(Fh q&& !Bf id q)))))) (.opt (app by' l m') fun r=> .opt (k_ (nn=(l.length:Int)/\mm=(m'.length:Int)/\0<m'.length)) fun _=>
          .ret ((Bp [(id, .deep E (r.length:Nat) r none)] (st.E_ (RN q id))).put (some d) (.c (.c (.e_ id)))))
         | none=> .no
       | _,_=> .no
     | _,_,_=> .no
   | _,_,_=> .no
 | _,_=> .no
theorem AfA {H:As T} {P:Program} {I:World->Prop} {st:Af T} (hw:AH H st) {o:Oper}:Yl (dad P o st) (fun an=>(∃ H',Nx H st H' an)/\an.pre=st.pre/\ ∀ K:St->Prop,K an.toSt->DJ P I o st.toSt K):=by
 unfold dad;split
 case h_2=>exact Yl.no
 rename_i c d hop ag4;split
 case h_2=>exact Yl.no
 rename_i u x t t' aev ab9 alC;split
 case h_2=>exact Yl.no
 rename_i id q E' n by' hu hx abq;split
 case h_2=>exact Yl.no
 rename_i E nn l E2 mm m hdi hdq;split
 case h_2=>exact Yl.no
 rename_i m' avp;refine Yl.Tf fun hg=>Yl.opt fun r hr=>Yl.opt fun un hun=>?_;simp only [and_eq_true,beq_eq,blt_eq,not_eq_true']at hg;obtain⟨g1,g2,g3,g4,g5,g6,g7⟩:=hg;subst g1 g2 g3;obtain⟨e2,hm'⟩:=Kr avp;subst e2;replace hm':m'=m:=hm';subst hm';obtain⟨hnn,hmm,hm0⟩:=Cm hun;have hrx:=xQ hr;have hrb:=Lc hr;have Tj:id ≠ q:=fun e=>by rw [AN.2 e]at g7;cases g7
 obtain⟨aze,_,ei,azC,azB,azA⟩:=B3 hdi;obtain⟨apN,_,eq,azx,azw,azv⟩:=B3 hdq;have hE:ei.toE=⟨id,some (E2,T.sz E2,l.length),AC T E2 nn 0 l,true⟩:=by unfold DE.toE;rw [azA,azB];rfl
 have hQ:eq.toE=⟨q,some (E2,T.sz E2,m'.length),AC T E2 mm 0 m',true⟩:=by unfold DE.toE;rw [azv,azw];rfl
 obtain⟨⟨H1,n1⟩,k1,k2,k3,k4,k5⟩:=Af.aci hw (RN q id);obtain⟨H2,n2⟩:=JE (l:=[(id,DX.deep E2 (r.length:Nat) r none)]) n1 (fun p hp=>by rcases mem_singleton.1 hp with rfl;trivial) (by simp) (fun p hp e he q'=>by rcases mem_singleton.1 hp with rfl;have:=k5 e he;rw [jW,q']at this;simp at this)
 obtain⟨s1,s2,s3,s4,s5,_⟩:=Ey [(id,DX.deep E2 (r.length:Nat) r none)] (st.E_ (RN q id));obtain⟨H3,n3⟩:=Af.D_ n2 (some d) (v:= .c (.c (.e_ id))) (by simp only [DV.ok,DC.ok]);refine Yl.ret ⟨⟨H3,n3⟩,by rw [AS,s3];exact k4,fun K hK F a w G Q hI hR=>?_⟩;obtain⟨a1,a2,a3⟩:=Ht hw hu;obtain⟨b1,b2,b3⟩:=Ht hw hx;have huv:=hR.arg rfl a2;have V_:=hR.arg rfl b2;rw [a3]at huv;rw [b3]at V_;simp only [DV.toV,DC.toC,Ab,Ad]at huv V_;have hmi:ei.toE∈st.toSt.so:=mem_map.2 ⟨ei,azC,rfl⟩;have hmq:eq.toE∈st.toSt.so:=mem_map.2 ⟨eq,azx,rfl⟩;have hL:st.toSt.IN id=some ei.toE:=hR.I_ hmi (by rw [hE]) g5;have hLq:st.toSt.IN q=some eq.toE:=hR.I_ hmq (by rw [hQ]) g6;have hpq:Ao eq.toE.cs=true:=hR.x_ _ hmq (by rw [hQ]);obtain⟨v,xs,c1,c2,c3,c4⟩:=DB (e:=ei.toE) (by rw [hE]) (hR.store _ hmi);obtain⟨vq,us,d1,d2,d3,d4⟩:=DB (e:=eq.toE) (by rw [hQ]) (hR.store _ hmq);rw [show ei.toE.id=id by rw [hE],huv.1]at c1;injection c1 with c1;rw [show eq.toE.id=q by rw [hQ],V_.1]at d1;injection d1 with d1;obtain⟨i,z,hty,hi,hz,hsz,hby,hzs⟩:=DD abq;rcases d4 with ⟨d4,d5⟩ | ⟨_,_,d4,_⟩
 case inr=>omega
 obtain⟨bq,aot,aAJ,p1,_,p2,p3,p4,p5,p6⟩: ∃ g cap cur,vq= .slice (some ⟨g,0,none⟩) m'.length cap/\0<=g/\w.heap[g]? =some (.cells cur E2 (0,0))/\m'.length<=cap/\cap<=maxLen/\cur.size=cap*T.sz E2/\cur.toList.take (m'.length*T.sz E2)=us:=by
  rcases d4.2 with ⟨_,h0⟩ | h1
  ·omega
  ·exact h1
 have hul:us.length=m'.length*T.sz E2:=d4.1;have hbq:G.m_ q=some bq:=by rw [<-show eq.toE.id=q by rw [hQ], <-d5,p1];rfl
 have aeq: ∀ j u',us[j]? =some u'->w.cell? ((⟨bq,0,none⟩:Addr).add j)=some u':=d4.cells (g:=bq) (by rw [p1];rfl);have acW: ∀ u∈us,u.oneCell'=true:=Aj.one d3;have ase: ∀ k E2 n len cs v,eq.toE.cs[k]? =some (.isl E2 n len cs)->G.own (BO k q)=some v->us[k]? =some v:=by
  intro k E2 n len cs v hk ho;obtain⟨_,_,b2,v2,i1,i2,i3⟩:=hR.inner hLq hk;rw [hbq]at i1;injection i1 with i1;subst i1;rw [ho]at i3;injection i3 with i3;subst i3;have hkl:k<us.length:=by have:=d3.length;have:=(List.getElem?_eq_some_iff.1 hk).1;omega
  have:=aeq k us[k] (List.getElem?_eq_getElem hkl);rw [Addr.add_mid]at this;rw [List.getElem?_eq_getElem hkl];have e0:(⟨bq,0+k,none⟩:Addr)=⟨bq,k,none⟩:=by rw [zero_add]
  rw [e0,i2]at this;exact this.symm
 have main: ∀ v0 v' w',(Builtin.append_ #[t,t] o.type #[a.eval u,a.eval x]).run P w= .ok v' w'->v0.ownBlock=G.m_ id->(∀ b j u',G.m_ id=some b->xs[j]? =some u'->w.cell? ⟨b,j,none⟩=some u')->w.ownsRow 0 E2 (T.sz E2) v0 l.length xs->w'.ownsRow 0 E2 (T.sz E2) v' (l.length+m'.length) (xs++us)->w.grownBy w' v0.ownBlock->(v'.ownBlock=v0.ownBlock\/ ∀ b,v'.ownBlock=some b->w.heap.size<=b)->o.wp P a w (mv F K) Q:=by
  intro v0 v' w' q_ hob hxc hold aas hg hfr;obtain⟨f1,f2⟩:=hR.agO hL (by rw [hE]) hob c3 (nR d3) hxc hold aas hg hfr (nQ hpq) (uh _);have z_:ei.toE.row=some (E2,T.sz E2,l.length):=by rw [hE]
  have hpe:ei.toE.b_ (· ==id)=ei.toE:=by rw [hE];rfl
  have hD:=f1.I_ (e:=⟨id,some (E2,T.sz E2,l.length+m'.length),ei.toE.cs++eq.toE.cs.map xq,true⟩) (id:=id) (by
   refine mem_map.2 ⟨ei.toE,mem_map.2 ⟨ei.toE,hmi,hpe⟩,?_⟩;rw [Ec (by rw [hE]),hE]) rfl g5
  have hDq:=f1.I_ (e:=eq.toE) (id:=q) (by
   refine mem_map.2 ⟨eq.toE,mem_map.2 ⟨eq.toE,hmq,by rw [hQ];rfl⟩,?_⟩;exact Eb (by rw [hQ];exact Tj.symm)) (by rw [hQ]) g6
  have hlx:xs.length=l.length*T.sz E2:=hold.1;have hcl:ei.toE.cs.length=xs.length:=c3.length;have hnl:(xs++us).length =(l.length+m'.length)*T.sz E2:=aas.1;obtain⟨g,cap,cur,r1,_,r2,r3,r4,r5,r6⟩: ∃ g cap cur,v'= .slice (some ⟨g,0,none⟩) (l.length+m'.length) cap/\0<=g/\w'.heap[g]? =some (.cells cur E2 (0,0))/\l.length+m'.length<=cap/\cap<=maxLen/\cur.size=cap*T.sz E2/\cur.toList.take ((l.length+m'.length)*T.sz E2)=xs++us:=by
   rcases aas.2 with ⟨_,h0⟩ | h1
   ·omega
   ·exact h1
  have abH: ∀ k v,us[k]? =some v->w'.cell? ⟨g,ei.toE.cs.length+k,none⟩=some v:=by intro k v hk;have hrg:=BE r2 (us:=xs++us) (rest:=cur.toList.drop ((l.length+m'.length)*T.sz E2)) (by rw [<-r6,List.take_append_drop]);have hkl:=(List.getElem?_eq_some_iff.1 hk).1;have:=hrg (ei.toE.cs.length+k) v (by rw [hcl,List.getElem?_append_right (by omega),Nat.add_sub_cancel_left];exact hk);grind
  obtain⟨G',q1,q2⟩:=f1.anF hD hDq Tj (b:=g) (off:=ei.toE.cs.length) (by simp [B9,r1,Value.ownBlock]) (by simp) (by simp) (fun k E2 n len cs v hk ho=>abH k v (ase k E2 n len cs v hk (by
   have:BO k q ≠ id:=(CL aze k).symm;simpa [B9,this] using ho)))
  have ea:c.args= #[u,x]:=by have:=congrArg List.toArray ab9;simpa using this
  have et:c.argTypes= #[t,t]:=by have:=congrArg List.toArray alC;simpa using this
  have ake:(execOp a.eval o).run P w= .ok (.value v') w':=by simp [execOp,hop,resolve,aev,ea,et,invoke,builtin,q_]
  refine AJ ake ⟨_,G',hK,?_⟩;rw [ag4];have aob:=R.put (d:=some d) q1 (show Ab w' G' (V.c (C.e_ id)) v' by simp only [Ab,Ad];exact⟨by rw [q2];simp [B9],f2⟩);refine aob.less ?_;rw [Af.h_];have ajD: ∀ v:V,BD (nP q id) (BD (· ==id) v)=BD (RN q id) v\/BD (RN q id) v= .undef :=by
   intro v;by_cases hh:v.f_ (RN q id)=true
   ·exact .inr (by unfold BD;rw [if_pos hh])
   ·have hh:v.f_ (RN q id)=false:=by simpa using hh
    left;rw [jW]at hh ⊢;rw [Pf (q:=(· ==id)) (fun i hi=>by simp only [beq_iff_eq]at hi;simp [hi]) hh,Pf (q:=nP q id) (fun i hi=>by simp [hi]) hh];unfold BD;rw [if_neg (by simp [hh])]
  have hls: ∀ l:List V,JB ((l.map (BD (· ==id))).map (BD (nP q id))) (l.map (BD (RN q id))):=fun l=>by
   rw [map_map];exact JB.map fun v _=>by
    rcases ajD v with e | e
    ·exact .inr e.symm
    ·exact .inl e
  have htr: ∀ {a b c:List V},JB a b->JB b c->JB a c:=by
   intro a b c h1 h2;obtain⟨l1,g1⟩:=h1.get;obtain⟨l2,g2⟩:=h2.get;exact JB.of (l2.trans l1) fun i=>by
    rcases g2 i with e | e
    ·exact .inl e
    ·rw [e];exact g1 i
  refine Cp.put (Lj ?_ ?_ ?_ ?_ ?_) _ _
  ·have:(Bp [(id,DX.deep E2 (r.length:Nat) r none)] (st.E_ (RN q id))).toSt.tm =(st.E_ (RN q id)).toSt.tm :=by simp only [Af.toSt,s1,s4]
   rw [this];exact htr (hls _) k1
  ·have:(Bp [(id,DX.deep E2 (r.length:Nat) r none)] (st.E_ (RN q id))).toSt.gh =(st.E_ (RN q id)).toSt.gh :=by simp only [Af.toSt,s2]
   rw [this];exact htr (hls _) k2
  ·intro y hy;rw [s5]at hy;simp only [map_cons,map_nil,List.singleton_append,mem_cons]at hy;simp only [St.b_,mem_map,mem_filter];rcases hy with rfl | hy
   ·refine⟨⟨id,some (E2,T.sz E2,l.length+m'.length),ei.toE.cs++eq.toE.cs.map xq,true⟩,⟨⟨id,some (E2,T.sz E2,l.length+m'.length),ei.toE.cs++eq.toE.cs.map xq,true⟩,⟨⟨ei.toE,⟨ei.toE,hmi,hpe⟩,by rw [Ec (by rw [hE]),hE]⟩,by simpa using Tj⟩,rfl⟩,?_⟩;refine(Ec rfl).trans ?_;show (⟨id,_,(ei.toE.cs++eq.toE.cs.map xq).take ei.toE.cs.length++eq.toE.cs,true⟩:Aw)=⟨id,some (E2,T.sz E2,r.length),AC T E2 (r.length:Nat) 0 r,true⟩;rw [List.take_left',hrx,hE,hQ,List.length_append]
    ·congr 1;simp only;rw [Is (by omega),Is (by omega),Is (by simp),List.flatMap_append]
    ·rfl
   ·rw [k3]at hy;obtain⟨e3,h1,rfl⟩:=mem_map.1 hy;obtain⟨h1,h2⟩:=mem_filter.1 h1;rw [jW]at h2 ⊢;simp only [not_eq_true',or_eq_false_iff,beq_eq_false_iff_ne,nP]at h2;obtain⟨h2,h3,h4⟩:=h2;refine⟨(e3.b_ (· ==id)).b_ (nP q id),⟨e3.b_ (· ==id),⟨⟨e3.b_ (· ==id),⟨e3,h1,rfl⟩,Eb (by rw [Aw.t_];exact h2)⟩,by rw [Aw.t_];simpa using h3⟩,rfl⟩,?_⟩;rw [Eb (by rw [Aw.t_,Aw.t_];exact h2),Aw.anN]
  ·exact FH n2.ok
  ·rw [show (Bp [(id,DX.deep E2 (r.length:Nat) r none)] (st.E_ (RN q id))).toSt.pre =st.pre from by show (Bp _ _).pre =_;rw [s3];exact k4];rfl
 rw [show ei.toE.id=id by rw [hE]]at c4;rcases c4 with ⟨c4,c5⟩ | ⟨p,hvp,h0,hxs,c5⟩
 ·have hxc: ∀ b j u',G.m_ id=some b->xs[j]? =some u'->w.cell? ⟨b,j,none⟩=some u':=by intro b j u' hb' hj;have:=c4.cells (g:=b) (by grind) j u' hj;grind [Addr.add_mid]
  obtain⟨v',w',q_,aam,hg,hfr⟩:=IP (P:=P) (w:=w) t o.type E2 i z (T.sz E2) by' hty hi hz hsz hby hzs g4 v l.length xs c4 ⟨bq,0,none⟩ m'.length aot us hul aeq acW hrb.2 hrb.1;exact main v v' w' (by rw [c1,d1,p1];exact q_) c5 hxc c4 aam hg hfr
 ·have auH:xs=[]:=hxs;obtain⟨v',w',q_,aam,hg,hfr⟩:=IQ (P:=P) (w:=w) t o.type E2 i z (T.sz E2) by' hty hi hz hsz hby hzs g4 p ⟨bq,0,none⟩ m'.length aot us hul aeq (by omega) (by have:=hrb.2;omega) (by have:=hrb.1;rw [h0,zero_add]at this;exact this);exact main (.slice none 0 0) v' w' (by rw [c1,d1,p1,hvp];exact q_) c5.symm (by rw [c5];intro b j u' hb';cases hb') ⟨by rw [auH,h0];simp, .inl ⟨rfl,h0⟩⟩ (by rw [auH,h0,zero_add,List.nil_append];exact aam) (by exact hg) (.inr hfr)
theorem aeH {P:Program} (w:World) (dT sT ty elem:TypeId) (d a:Option Addr) (avK aAF atH axK:Nat) (hu:P.underlying dT=some (.slice elem)) (hs:(P.info? elem).map (·.size)=some 1) (hn:Nat.min atH avK=0):
 (Builtin.copy_ #[dT,sT] ty #[.slice d avK aAF, .slice a atH axK]).run P w= .ok (goInt 0) w:=by
 cases hq:P.info? elem with
 | none=>simp [hq]at hs
 | some i=>
   have hl: ∀ (x:Addr),(loadCells x 0).run P w= .ok #[] w:=fun x=>by simpa using run_loadCells_list (P:=P) w x [] (by simp)
   cases d<;>cases a<;>simp [Builtin.copy_,run_underlying hu,Builtin.lenOf,Builtin.firstCells,sizeOf,typeInfo,hq,hn,storeCells,hl]
def dcp (P:Program) (o:Oper) (st:Af T):M (Af T):=match o.op,o.dst with
 | .call c,some d=>match c.callee,c.args.toList,c.argTypes.toList with
   | .builtin .copy,[x,y],[t,_]=>match st.arg [] x,st.arg [] y,Dk P t with
     | some (.c (.c (.e_ id))),some (.c y'),some (e,n)=>match DG st id with
       | some ⟨E,l⟩=>match Ij false (.l_ E) y' with
         | some m=>Tf (Nat.beq e E&&(Nat.beq n (T.sz E)&&Nat.beq n 1)) (.opt (k_ (m.length=l.length)) fun _=>
          .ret ((st.abn id (.row E m)).put (some d) (.c (.k (.int .i64) ((List.length l:Nat):Int)))))
         | none=> .no
       | none=> .no
     | _,_,_=> .no
   | _,_,_=> .no
 | _,_=> .no
theorem AfB {H:As T} {P:Program} {I:World->Prop} {st:Af T} (hw:AH H st) {o:Oper}:Yl (dcp P o st) (fun an=>(∃ H',Nx H st H' an)/\an.pre=st.pre/\ ∀ K:St->Prop,K an.toSt->DJ P I o st.toSt K):=by
 unfold dcp;split
 case h_2=>exact Yl.no
 rename_i c d hop ag4;split
 case h_2=>exact Yl.no
 rename_i x y t t2 aev ab9 alC;split
 case h_2=>exact Yl.no
 rename_i id y' e n hx hy ht;split
 case h_2=>exact Yl.no
 rename_i E l hr;split
 case h_2=>exact Yl.no
 rename_i m hm;refine Yl.Tf fun hg=>Yl.opt fun u hn=>Yl.ret ?_;simp only [and_eq_true,beq_eq]at hg;obtain⟨g1,g2,g3⟩:=hg;subst g1;have ar3:T.sz e=1:=by omega
 have hlen:=Cm hn;obtain⟨a1,a2,a3⟩:=Ht hw hx;obtain⟨b1,b2,b3⟩:=Ht hw hy;obtain⟨hu,inf,hi1,hsz⟩:=DI ht;obtain⟨H1,n1⟩:=Af.abk hw id (x:= .row e m) trivial;obtain⟨H2,n2⟩:=Af.D_ n1 (some d) (v:= .c (.k (.int .i64) ((l.length:Nat):Int))) (by simp only [DV.ok,DC.ok]);refine⟨⟨H2,n2⟩,by rw [AS];rfl,fun K hK F a w G Q hI hR=>?_⟩;have V_:=hR.arg rfl a2;rw [a3]at V_;simp only [DV.toV,DC.toC,Ab,Ad]at V_;have hyv:=hR.arg rfl b2;have hyc:y'.toC=Bm T.enc (.l_ e) m:=(CB hm).2 rfl;rw [b3]at hyv;simp only [DV.toV,hyc,Bm,Ab,Ad]at hyv;obtain⟨hpm,ad,alL,hye,_,_,_,z_⟩:=hyv;obtain⟨v,v1,v2⟩:=hR.ac5 hr;rw [V_.1]at v1;injection v1 with v1;have ea:c.args= #[x,y]:=by have:=congrArg List.toArray ab9;simpa using this
 have et:c.argTypes= #[t,t2]:=by have:=congrArg List.toArray alC;simpa using this
 have hs1:(P.info? e).map (·.size)=some 1:=by rw [hi1];simp only [map_some,injEq];omega
 have fin: ∀ w',(Builtin.copy_ #[t,t2] o.type #[a.eval x,a.eval y]).run P w= .ok (goInt l.length) w'->R F (st.abn id (.row e m)).toSt a w' G->o.wp P a w (mv F K) Q:=by
  intro w' q_ hR';have ake:(execOp a.eval o).run P w= .ok (.value (goInt l.length)) w':=by simp [execOp,hop,resolve,aev,ea,et,invoke,builtin,q_]
  refine AJ ake ⟨_,G,hK,?_⟩;rw [ag4,Af.h_];exact hR'.put (by simp only [DV.toV,DC.toC,Bm,Ab,Ad,goInt])
 have aqb:l.length=0->R F (st.abn id (.row e m)).toSt a w G:=by
  intro h0;have hml:m=l:=by rw [List.length_eq_zero_iff.1 h0,List.length_eq_zero_iff.1 (hlen.trans h0)]
  obtain⟨h1,_,e0,e1,e2,e3⟩:=BN hr;refine hR.less ⟨rfl,fun i=> .inr rfl,fun z hz=>?_,fun _=>FH n1.ok,⟨rfl,fun i=> .inr rfl⟩,rfl⟩;obtain⟨e5,h5,rfl⟩:=mem_map.1 hz;rcases acd hw.nd h5 with ⟨h6,_⟩ | h6
  ·exact mem_map.2 ⟨e5,h6,rfl⟩
  ·subst h6;refine mem_map.2 ⟨e0,e1,?_⟩;rw [DE.toE_row e3,e2,hml];rfl
 rcases v2 with ⟨p,rfl,h0⟩ | ⟨b,cap,cur,rfl,v3,v4,v5,v6,v7,v8⟩
 ·have q_:=aeH (P:=P) w t t2 o.type e p ad 0 0 (List.length m) alL hu hs1 (Nat.min_zero _);exact fin w (by rw [v1,hye,h0];exact q_) (aqb h0)
 ·by_cases h0:l.length=0
  ·have q_:=aeH (P:=P) w t t2 o.type e (some ⟨b,0,none⟩) ad l.length cap (List.length m) alL hu hs1 (by rw [h0];exact Nat.min_zero _);exact fin w (by rw [v1,hye,h0]at *;exact q_) (aqb h0)
  ·rcases z_ with z_ | ⟨b2,off,rfl,hwr,hb2,z_⟩
   ·omega
   ·obtain⟨us,u1,u2⟩:=z_.list;have hul:us.length=l.length:=by have h7:(List.flatMap (T.enc e) m).length =List.length m*T.sz e:=aE (fun y=>AQ e y) m;rw [<-u1.length,h7,ar3,mul_one,hlen]
    have hml:(m.flatMap (T.enc e)).length =l.length:=by rw [u1.length,hul]
    obtain⟨adG,T',s1,s2,s3⟩:=R.agX (m:=m) hR hw hr v3 (off:=0) u1 hpm hlen (by
     rw [List.take_zero,List.nil_append,zero_add,List.drop_eq_nil_of_le (by
      have h7:(List.flatMap (T.enc e) l).length =List.length l*T.sz e:=aE (fun y=>AQ e y) l;rw [hml,h7,ar3];omega),List.append_nil]) (by rw [hml,ar3];omega)
    have q_:=run_copy_row (P:=P) w t t2 o.type e b 0 l.length cap ⟨b2,off,none⟩ (List.length m) alL adG T' us hu hs1 s1 (by rw [hul,hlen];simp) (fun j v hv=>by have:=u2 j v hv;rw [Addr.add_mid];exact this) (by omega) (Aj.one u1)
    rw [hul]at q_;exact fin _ (by rw [v1,hye];exact q_) (by rw [hul]at s3;exact s3)
end Go.PL
namespace Go.PL
open Go Go.RowKit
variable {T:Bo}
def jn {X R:Type} (J:X->Option R) (body:(X->Option R)->Option R):Option R:=body J
inductive Sp where
 | co
 | sub (md:Bool)
 | clr
 | apb
 | dlx
 | dsa
 | dse
 | mk
 | ss
 | ins
 | bf
 | sb
 | mld
 | mix
 | mst
 | lz
 | by_
 | ga
 | gl
 | ad
 | cp
 | au
inductive Gh where
 | tr (d:Nat)
 | dp (d:Nat)
 | fd (id:Ah)
 | ug (ks:List Nat)
mutual
inductive Hn where
 | n
 | s (a b:Hn)
 | j (sh:Iq) (a b:Hn)
 | i (a b:Hn)
 | l (sh:Iq) (xs:List (Nat×Iq)) (b:Hn)
 | r (fz:List Ah) (ow:List (Ah×Nat×Ah×Nat)) (il:Hl)
 | x
inductive Hl where
 | n
 | c (k:Nat) (h:Hn) (r:Hl)
 | j (k:Nat) (sh:Iq) (h:Hn) (r:Hl)
 | q (k:Nat) (sp:Sp) (r:Hl)
 | u (k:Nat) (ks:List Nat) (ke:List Ah) (kd:Kd) (h:Hn) (r:Hl)
 | g (k:Nat) (gh:Gh) (r:Hl)
 | t (r:Hl)
end
def Hn.a:Hn->Hn
 | .s a _=>a
 | .i a _=>a
 | _=> .n
def Hn.b:Hn->Hn
 | .s _ b=>b
 | .i _ b=>b
 | _=> .n
inductive HA where
 | n
 | c (h:Hn)
 | j (sh:Iq) (h:Hn)
 | q (sp:Sp)
 | u (ks:List Nat) (ke:List Ah) (kd:Kd) (h:Hn)
def Mp:Hl->Nat->HA
 | .n,_=> .n
 | .c k h r,i=>match Nat.beq k i with
   | true=> .c h
   | false=>Mp r i
 | .j k sh h r,i=>match Nat.beq k i with
   | true=> .j sh h
   | false=>Mp r i
 | .q k sp r,i=>match Nat.beq k i with
   | true=> .q sp
   | false=>Mp r i
 | .u k ks ke kd h r,i=>match Nat.beq k i with
   | true=> .u ks ke kd h
   | false=>Mp r i
 | .g _ _ r,i=>Mp r i
 | .t r,i=>Mp r i
def Ajz:Hl->Bool
 | .t _=>true
 | _=>false
def dgh:Gh->Af T->M (Af T)
 | .tr d,st=>dtr d st
 | .dp d,st=>ddp d st
 | .fd id,st=>match st.ass id with
   | some s=> .ret s
   | none=> .no
 | .ug ks,st=> .ret (dug ks st)
def Vv:Hl->Nat->Af T->M (Af T)
 | .n,_,st=> .ret st
 | .c _ _ r,i,st=>Vv r i st
 | .j _ _ _ r,i,st=>Vv r i st
 | .q _ _ r,i,st=>Vv r i st
 | .u _ _ _ _ _ r,i,st=>Vv r i st
 | .t r,i,st=>Vv r i st
 | .g k g r,i,st=>match Nat.beq k i with
   | true=> .M_ (dgh g st) (Vv r i)
   | false=>Vv r i st
theorem AfC {H:As T} {st:Af T} (hw:AH H st) (g:Gh):Yl (dgh g st) (fun an=>(∃ H',Nx H st H' an)/\an.pre=st.pre/\Wk st.toSt an.toSt):=by cases g<;>grind [Afk,yP,Yl.ret,Afp,dgh,wA,Yl.no]
theorem GE (i:Nat): ∀ (il:Hl) {H:As T} {st:Af T},AH H st->Yl (Vv il i st) (fun an=>(∃ H',Nx H st H' an)/\an.pre=st.pre/\Wk st.toSt an.toSt)
 | .n,H,st,hw=>Yl.ret ⟨⟨H,Nx.refl hw⟩,rfl,Wk.less (Cp.refl _)⟩
 | .c _ _ r,H,st,hw=>GE i r hw
 | .j _ _ _ r,H,st,hw=>GE i r hw
 | .q _ _ r,H,st,hw=>GE i r hw
 | .u _ _ _ _ _ r,H,st,hw=>GE i r hw
 | .t r,H,st,hw=>GE i r hw
 | .g k g r,H,st,hw=>by
   unfold Vv;split
   ·refine Yl.M_ (AfC hw g) fun s hs=>?_;obtain⟨⟨H1,n1⟩,p1,w1⟩:=hs;refine(GE i r n1.ok).mono fun s' hs'=>?_;obtain⟨⟨H2,n2⟩,p2,w2⟩:=hs';exact⟨⟨H2,n1.trans n2⟩,p2.trans p1,w1.trans w2⟩
   ·exact GE i r hw
def rG (st:Af T) (xs:List Operand):List Ah:=match I7 st [] xs with
 | some vs=>SS vs
 | none=>[]
theorem Nj: ∀ {l:List Ah} {st:Af T} {H:As T},AH H st->(FV l st).pre =st.pre
 | [],_,_,_=>rfl
 | i::r,st,H,h=>by
   unfold FV;split
   ·rename_i s hs;obtain⟨⟨H1,a⟩,_,_,b⟩:=Af.agN h hs;rw [Nj a.ok,b]
   ·exact Nj h
theorem DJ.wk {P:Program} {I:World->Prop} {o:Oper} {A B:St} {K:St->Prop} (hk:Wk A B) (h:DJ P I o B K):DJ P I o A K:=fun F a w G Q hI hR=>by obtain⟨G',q⟩:=hk F a w G hR;exact h F a w G' Q hI q
def rH (st:Af T):List (Nat×Operand)->List Ah
 | []=>[]
 | p::r=>rG st [p.2]++rH st r
def dbf (P:Program) (o:Oper) (st:Af T):M (Af T):=match o.op with
 | .buildSlice _ _ ps=>vV P (FV (rH st ps.toList) st) o
 | _=> .no
theorem AfD {H:As T} {P:Program} {I:World->Prop} {st:Af T} (hw:AH H st) {o:Oper}:Yl (dbf P o st) (fun an=>(∃ H',Nx H st H' an)/\an.pre=st.pre/\ ∀ K:St->Prop,K an.toSt->DJ P I o st.toSt K):=by
 unfold dbf;split
 ·rename_i ps hop;obtain⟨⟨H1,n1⟩,w1⟩:=Gm (l:=rH st ps.toList) (Nx.refl hw);refine(Yz n1.ok o).mono fun an h=>?_;obtain⟨⟨H2,n2⟩,h2,h3,h4⟩:=h;refine⟨⟨H2,n1.trans n2⟩,h4.trans (Nj hw),fun K hK=>DJ.wk w1 fun F a w G Q hI hR=>?_⟩;obtain⟨nx,w',G',q1,q2⟩:=(Sx hR h2).out;unfold Oper.wp Oper.upon;rw [q1];rcases q2 with ⟨v,rfl,q3⟩ | ⟨rfl,q3⟩
  ·exact⟨_,G',hK,q3.less h3⟩
  ·exact⟨_,G',hK,q3.less h3⟩
 ·exact Yl.no
def dsp {P:Program} {I:World->Prop} (Γ:List (CE T P I)) (o:Oper) (st:Af T):Sp->M (Af T)
 | .co =>match Ck o.op,o.dst with
   | .call f xs,some d=>rz Γ (FV (rG st xs) st) f xs d
   | _,_=> .no
 | .au => .no
 | .sub md=>Ab2 P o md st
 | .clr =>Afi P o st
 | .apb =>Afj P o st
 | .dlx =>dlx P o st
 | .dsa =>dsa P o st
 | .dse =>dse P o st
 | .mk =>dmk P o st
 | .ss =>Df P o st
 | .ins =>Afq Γ o st
 | .bf =>dbf P o st
 | .sb =>dsb P o st
 | .mld =>Afr P o st
 | .mix =>Afs P o st
 | .mst =>Aft P o st
 | .lz => .no
 | .by_ =>dby P o st
 | .ga =>dga P o st
 | .gl =>dgl Γ o st
 | .ad =>dad P o st
 | .cp =>dcp P o st
theorem AfE {H:As T} {P:Program} {I:World->Prop} {Γ:List (CE T P I)} {st:Af T} (hw:AH H st) (o:Oper) (sp:Sp):Yl (dsp Γ o st sp) (fun an=>(∃ H',Nx H st H' an)/\an.pre=st.pre/\ ∀ K:St->Prop,K an.toSt->DJ P I o st.toSt K):=by
 cases sp with
 | co=>
   unfold dsp;simp only;split
   ·rename_i f xs d hk hd;obtain⟨⟨H1,n1⟩,w1⟩:=Gm (l:=rG st xs) (Nx.refl hw);refine(wx n1.ok hk hd).mono fun s ⟨⟨H2,n2⟩,p2,k2⟩=>⟨⟨H2,n1.trans n2⟩,p2.trans (Nj hw),fun K hK=>DJ.wk w1 (k2 K hK)⟩
   ·exact Yl.no
 | au=>exact Yl.no
 | sub md=>exact(uc hw).mono fun _ ⟨a,b,c⟩=>⟨a,b,fun K hK=>c.esc hK⟩
 | clr=>exact Ab3 hw
 | apb=>exact Ab4 hw
 | dlx=>exact(yO hw).mono fun _ ⟨a,b,c⟩=>⟨a,b,fun K hK=>c.esc hK⟩
 | dsa=>exact Afg hw
 | dse=>exact Afh hw
 | mk=>exact Afn hw
 | ss=>exact Afo hw
 | ins=>exact Ab9 hw
 | bf=>exact AfD hw
 | sb=>exact Afx hw
 | mld=>exact Aca hw
 | mix=>exact Acb hw
 | mst=>exact Acc hw
 | lz=>exact Yl.no
 | by_=>exact Afu hw
 | ga=>exact Afv hw
 | gl=>exact Afw hw
 | ad=>exact AfA hw
 | cp=>exact AfB hw
def auL (P:Program) (st:Af T) (o:Oper):Bool:=match o.op with
 | .load t x=>match st.arg [] x with
   | some (.c (.rp id _ _ _))=>Fh id&&(Dk P t).isSome
   | _=>false
 | _=>false
def auS (st:Af T) (o:Oper):Option Sp:=match o.op with
 | .store _ x y=>match st.arg [] x,st.arg [] y with
   | some (.c (.rp id _ _ _)),some v=>match Fh id,v with
     | true, .c (.c (.e_ _))=>some .dsa
     | true, .agg _=>some .dse
     | true,_=>some .ss
     | false,_=>none
   | _,_=>none
 | _=>none
def Acg {P:Program} {I:World->Prop} (Γ:List (CE T P I)) (ops:Array Oper) (o:Oper) (st:Af T) (sp:Sp):M (Af T):=match o.guard,sp with
 | none, .au =>match auL P st o,auS st o with
   | true,_=>dsp Γ o st .dlx
   | false,some sp=>dsp Γ o st sp
   | false,none=>dop Γ ops o st
 | none,sp=>dsp Γ o st sp
 | some _,_=> .no
theorem ui {H:As T} {P:Program} {I:World->Prop} {Γ:List (CE T P I)} {ops:Array Oper} {st:Af T} (hw:AH H st) (o:Oper) (sp:Sp):Yl (Acg Γ ops o st sp) (yE H P I ops st o):=by have A: ∀ sp,o.guard=none->Yl (dsp Γ o st sp) (yE H P I ops st o):=fun sp hg=>(AfE hw o sp).mono fun s ⟨a,b,c⟩=>⟨a,b,fun K hK=>by unfold fB;rw [hg];exact .inl (c K hK)⟩;unfold Acg;grind [jF,Yl.no]
def Vw (P:Program) (I:World->Prop) (ops:Array Oper):List Oper->St->(St->Prop)->Prop
 | [],st,K=> ∃ s,Wk st s/\K s
 | o::rest,st,K=> ∃ s,Wk st s/\fB P I ops o s (fun an=>Vw P I ops rest an K)
theorem aQ {P:Program} {F:Fr} {ops:Array Oper} {Q:Exit->Act->World->Prop} {K:St->Prop} (hQ: ∀ an a' w' G',K an->R F an a' w' G'->Q .normal a' w'):
 ∀ (l:List Oper) (st:St) (a:Act) (w:World) (G:AG),R F st a w G->Vw P F.I ops l st K->wpList P ops Q l a w
 | [],st,a,w,G,h,⟨s,hwk,hs⟩=>by obtain⟨G',h'⟩:=hwk _ _ _ _ h;exact hQ s a w G' hs h'
 | o::rest,st,a,w,G,h,⟨s,hwk,hs⟩=>by
   obtain⟨G',h'⟩:=hwk _ _ _ _ h;refine wpList_step fun K' hK'=>?_;have aic: ∀ a' w',mv F (fun an=>Vw P F.I ops rest an K) a' w'->K' a' w':=fun a' w' ⟨an,G',q,hR⟩=>
    hK' a' w' (aQ hQ rest an a' w' G' hR q)
   have:=U3 (Q:=Q) h' hs;split at this
   ·rename_i hw;rw [if_pos hw];grind [Oper.wp_mono]
   grind
theorem Ae.apr {P:Program} {F:Fr} {st:St} {id:Nat} {ops:Array Oper} {Q:Exit->St->Prop} (h:Vw P F.I ops ops.toList st (Q .normal)):Ae P F (.region id ops false) st Q:=
 fun _ _ G hR=>wp_region_list (aQ (K:=Q .normal) (fun an _ _ G' q hR'=>⟨an,G',q,hR'⟩) _ _ _ _ G hR h)
def wE (T:Bo):=(R:Type)->Code->Hn->Af T->(Exit->Af T->Option R)->Option R
def nU (P:Program) (I:World->Prop) (rec:wE T):Prop:= ∀ (R:Type) (c:Code) (h:Hn) (st:Af T) (H:As T) (K:Exit->Af T->Option R) (r:R),AH H st->rec R c h st K=some r->
 ∀ (F:Fr) (Q:Exit->St->Prop),F.I=I->(∀ H' e an,Nx H st H' an->K e an=some r->Q e an.toSt)->Ae P F c st.toSt Q
def YE:DV T->Option (FuncId×Bool×List (DC T))
 | .c (.c (.fn f))=>some (f,false,[])
 | .c (.clo b f cs)=>some (f,b,cs)
 | _=>none
def Qd (b:Bool) (aiO vs:List (DV T)):List (DV T):=match b with
 | true=>aiO++vs
 | false=>vs++aiO
def wF:Option Nat->Nat
 | some d=>d
 | none=>0
def yY (P:Program) (fn:Func) (o:Oper) (st:Af T) (R:Type) (K:Af T->Option R) (e:Exit) (stc:Af T):Option R:=match e with
 | .normal =>yK P stc fn.results.toList R fun v=>match stc.back st o.dst v with
   | some s=>K s
   | none=>none
 | .ret =>yK P stc fn.results.toList R fun v=>match stc.back st o.dst v with
   | some s=>K s
   | none=>none
 | _=>none
def rI (P:Program) (rec:wE T) (o:Oper) (h:Hn) (st:Af T) (R:Type) (K:Af T->Option R):Option R:=
 match o.op,o.guard with
 | .call c,none=>match c.callee with
   | .value x=>match YE (st.ev x),I7 st [] c.args.toList with
     | some (f,b,cs),some vs=>match P.funcs[f]? with
       | some fn=>match fn.body with
         | some body=>match ent P f&&Nat.ble (Qd b (cs.map DV.c) vs).length fn.ntmps with
           | true=>rec R body h (st.enter (wF o.dst) (Qd b (cs.map DV.c) vs) fn.ntmps) (yY P fn o st R K)
           | false=>none
         | none=>none
       | none=>none
     | _,_=>none
   | _=>none
 | _,_=>none
def kpt (ks:List Nat) (ke:List Ah):Iq:=⟨ks,[],ke,[]⟩
def dgd (ops:Array Oper) (o:Oper) (st:Af T):Option (List GL×Nat):=match o.guard,o.dst with
 | some (j,want),some d=>match ah st ops j want with
   | some key=>some (key,d)
   | none=>none
 | _,_=>none
def XP (key:List GL):List Operand->Af T->Af T
 | [],st=>st
 | .tmp t::r,st=>match st.get t with
   | .g k v=>match Rq k key with
     | true=>XP key r (st.put (some t) v)
     | false=>XP key r st
   | _=>XP key r st
 | _::r,st=>XP key r st
def yZ (o:Oper):List Operand:=match o.op with
 | .call c=>c.args.toList
 | _=>[]
theorem Nk {key:List GL} (hc:Be key=true): ∀ {l:List Operand} {H:As T} {st:Af T},AH H st->Fs H st.nx key->(∃ H',Nx H st H' (XP key l st))/\(XP key l st).pre =st.pre/\ ∀ F a w G,R F st.toSt a w G->R F (XP key l st).toSt a w G
 | [],H,st,hw,_=>⟨⟨H,Nx.refl hw⟩,rfl,fun _ _ _ _ h=>h⟩
 | .tmp t::r,H,st,hw,hk=>by
   unfold XP;split
   ·rename_i k v hg;split
    ·rename_i hs;have hok:=Af.ag5 hw t;rw [hg]at hok;simp only [DV.ok]at hok;have hck:=OY hs hok.1 hk hc;obtain⟨H1,n1⟩:=Af.aao hw (some t) (hok.2 hck);have hk1:Fs H1 (st.put (some t) v).nx key:=fun l hl=>GL.ac6 n1.ext n1.le (hk l hl);obtain⟨⟨H2,n2⟩,p2,h2⟩:=Nk (l:=r) hc n1.ok hk1;refine⟨⟨H2,n1.trans n2⟩,p2.trans (AS _ _ _),fun F a w G hR=>h2 F a w G ?_⟩;rw [Af.h_];refine hR.afV ?_;have hsl:Ab w G (st.toSt.get t) (a.tmps.getD t Go.undef):=hR.v_ t;rw [st.aa_ t,hg]at hsl;simp_all [DV.toV,Ab]
    ·exact Nk hc hw hk
   ·exact Nk hc hw hk
 | .const _::r,H,st,hw,hk=>by unfold XP;exact Nk hc hw hk
 | .func _::r,H,st,hw,hk=>by unfold XP;exact Nk hc hw hk
 | .global _::r,H,st,hw,hk=>by unfold XP;exact Nk hc hw hk
def aR {P:Program} {I:World->Prop} (Γ:List (CE T P I)) (rec:wE T) (ops:Array Oper) (il:Hl):List Oper->Nat->Af T->(R:Type)->(Af T->Option R)->Option R
 | [],k,st,R,K=>Vv il k st R K
 | o::rest,k,st,R,K=>Vv il k st R fun st=>match Mp il k with
   | .n =>dop Γ ops o st R fun an=>aR Γ rec ops il rest (k+1) an R K
   | .q sp=>Acg Γ ops o st sp R fun an=>aR Γ rec ops il rest (k+1) an R K
   | .c h=>rI P rec o h st R fun an=>aR Γ rec ops il rest (k+1) an R K
   | .j sh h=>jn (fun v:RT T sh.ts=>match sh.inst st (CC sh.ts v)with
    | some s=>aR Γ rec ops il rest (k+1) s R K
    | none=>none) (fun j=>rI P rec o h st R fun b=>match sh.gen st b with
    | some v=>j v
    | none=>none)
   | .u ks ke kd h=>match P7 kd,dgd ops o st with
    | true,some (key,d)=>jn (fun x:P6 T.den kd=>aR Γ rec ops il rest (k+1) (((kpt ks ke).base st).put (some d) (.g key (.c (.k kd x)))) R K)
     (fun j=>if Be key=true then rI P rec {o with guard:=none} h (XP key (yZ o) st) R fun b=>match (kpt ks ke).gen st b,jB kd (b.get d)with
      | some _,some x=>j x
      | _,_=>none
     else j (Ad4 T kd))
    | _,_=>none
section
variable {H:As T} {P:Program} {I:World->Prop} {Γ:List (CE T P I)} {rec:wE T} {st:Af T} {ops:Array Oper}
theorem Xk {n:Nat} {a b:List (DV T)} (h:CX H n a) (k:CX H n b):CX H n (a++b):=(by grind [OW])
theorem Xl (a b:List (DV T)):Bg (a++b)=Bg a++Bg b:=by simp [OV]
theorem gR (cs:List (DC T)):Bg (cs.map DV.c)=(Ar cs).map V.c:=by simp_all [OV,CK,DV.toV]
theorem SZ (abM:nU P I rec) (hw:AH H st) {o:Oper} {h:Hn} {R:Type} {K:Af T->Option R} {r:R} (hr:rI P rec o h st R K=some r)
 {PK:St->Prop} (hK: ∀ H' an,Nx H st H' an->an.pre=st.pre->K an=some r->PK an.toSt):o.guard=none/\DJ P I o st.toSt PK:=by
 unfold rI at hr;split at hr
 ·rename_i c hop hgd;refine⟨hgd,?_⟩;split at hr
  ·rename_i x aev;split at hr
   ·rename_i f b cs vs hf hvs;split at hr
    ·rename_i fn hfn;split at hr
     ·rename_i body aqR;split at hr
      ·rename_i hm;simp only [and_eq_true,ble_eq]at hm;obtain⟨abr,hlen⟩:=hm;obtain⟨a1,a2,a3⟩:=Dg (key:=[]) hw (Ml _ _) rfl hvs;change (st.toSt.args true c.args.toList).1 at a2;change (st.toSt.args true c.args.toList).2=Bg vs at a3;have hev:=Af.amf hw x;have avj:=st.abS x;have hcs:Ce cs:=by
        unfold YE at hf;split at hf
        ·simp only [injEq,Prod.mk.injEq]at hf;obtain⟨rfl,rfl,rfl⟩:=hf;simp [Ce]
        ·rename_i b' f' cs' he;simp only [injEq,Prod.mk.injEq]at hf;obtain⟨rfl,rfl,rfl⟩:=hf;grind [DV.ok,DC.ok]
        ·cases hf
       have aqQ:CX H st.nx (cs.map DV.c):=OW.2 fun v hv=>by obtain⟨d,h1,rfl⟩:=mem_map.1 hv;grind [DV.ok,C8]
       have ab9:CX H st.nx (Qd b (cs.map DV.c) vs):=by
        cases b
        ·exact Xk a1 aqQ
        ·exact Xk aqQ a1
       obtain⟨H1,n1⟩:=yJ hw (wF o.dst) fn.ntmps ab9;have hst:=ru (st:=st) (k:=wF o.dst) hlen;have hm:st.toSt.tm.length=st.m:=BB _ _;have main: ∀ w0 av old gv,Ae P ⟨w0,av,old,I,gv⟩ body (st.toSt.enter (wF o.dst) (Bg (Qd b (cs.map DV.c) vs)) fn.ntmps) (inQ P fn.results.toList st.toSt.tm.length st.toSt.pre o.dst PK):=by
        intro w0 av old gv;rw [<-hst];refine abM _ _ _ _ _ _ _ n1.ok hr ⟨w0,av,old,I,gv⟩ _ rfl fun H' e stc hN hE=>?_;have fin:yK P stc fn.results.toList R (fun v=>match stc.back st o.dst v with | some s=>K s | none=>none)=some r->
         (CA P stc.toSt fn.results.toList).1/\PK (stc.toSt.back st.toSt.tm.length st.toSt.pre o.dst (CA P stc.toSt fn.results.toList).2):=by
         intro hE;obtain⟨v,⟨v1,v2,v3⟩,hE⟩:=AbY hN.ok fn.results.toList R _ r hE;split at hE
         ·rename_i s hs;obtain⟨⟨H2,b1⟩,b2,b3⟩:=wo (n1.trans hN) v1 hs;refine⟨v2,?_⟩;have:=hK H2 s b1 b3 hE;rw [b2]at this;rw [v3,hm];exact this
         ·cases hE
        cases e<;>simp only [inQ]<;>first
         | exact fin hE
         | grind [yY]
       cases b with
       | false=>
         have hcv:Yu st.toSt x=some (f,Ar cs):=by
          unfold Yu;rw [avj];unfold YE at hf;split at hf
          ·rename_i f' he;simp only [injEq,Prod.mk.injEq]at hf;obtain⟨rfl,_,rfl⟩:=hf;grind [DV.toV,DC.toC,Ar]
          ·rename_i b' f' cs' he;simp only [injEq,Prod.mk.injEq]at hf;obtain⟨rfl,rfl,rfl⟩:=hf;grind [DV.toV,DC.toC]
          ·cases hf
         refine DJ.inline (wF o.dst) hop aev rfl (s:=(st.toSt.args true c.args.toList).1) (vs:=Bg vs) (by rw [<-a3]) a2 hcv abr hfn aqR rfl (rs:=fn.results.toList) (by simp) ?_;grind [Qd,Xl,gR]
       | true=>
         have hcv:st.toSt.ev x= .c (.bmv f (Ar cs)):=by
          rw [avj];unfold YE at hf;split at hf
          ·simp at hf
          ·rename_i b' f' cs' he;simp only [injEq,Prod.mk.injEq]at hf;obtain⟨rfl,rfl,rfl⟩:=hf;grind [DV.toV,DC.toC]
          ·cases hf
         refine DJ.apI (wF o.dst) hop aev rfl (s:=(st.toSt.args true c.args.toList).1) (vs:=Bg vs) (by rw [<-a3]) a2 hcv abr hfn aqR rfl (rs:=fn.results.toList) (by simp) ?_;grind [Qd,Xl,gR]
      ·cases hr
     ·cases hr
    ·cases hr
   ·cases hr
  ·cases hr
 ·cases hr
theorem Ach {P:Program} {I:World->Prop} {ops:Array Oper} {PK:St->Prop} {A B:St} (h:Wk A B): ∀ {l:List Oper},Vw P I ops l B PK->Vw P I ops l A PK
 | [],⟨s,h1,h2⟩=>⟨s,h.trans h1,h2⟩
 | _::_,⟨s,h1,h2⟩=>⟨s,h.trans h1,h2⟩
theorem wG (sh:Iq) {H:As T} {st:Af T} (hw:AH H st):Cp st.toSt (sh.base st).toSt :=by
 refine⟨?_,fun i=>?_,fun e he=>?_,fun _=>?_,⟨rfl,fun i=> .inr rfl⟩,rfl⟩
 ·show (AD _ _).length =(AD _ _).length;rw [BB,BB];rfl
 ·show (AD st.m (Hx sh.ks st.tm)).getD i .undef = .undef \/(AD st.m (Hx sh.ks st.tm)).getD i .undef =(AD st.m st.tm).getD i .undef;rw [Me,Me];split
  ·rw [P9];split
   ·grind
   grind [DV.toV]
  grind
 ·obtain⟨d,hd,rfl⟩:=mem_map.1 he;exact mem_map.2 ⟨d,(Hy sh.ke st.so).1.subset hd,rfl⟩
 ·exact FH (Iq.agP sh hw).ok
theorem za {A B:St} (h:Cp A B) (d:Option Nat) (x:V):Cp (A.put d x) (B.put d x):=by
 cases d with
 | none=>exact h
 | some d=>
   refine⟨by simp [St.put,h.len],fun i=>?_,h.so,h.nd,h.gh,h.pre⟩;have hl:=h.len;have:=h.tm i;simp only [St.put,List.getD_eq_getElem?_getD,getElem?_set,hl]at this ⊢;grind
theorem zb {H:As T} {st:Af T} {ops:Array Oper} {o:Oper} {key:List GL} {d:Nat} (hw:AH H st) (h:dgd ops o st=some (key,d)): ∃ j want,o.guard=some (j,want)/\o.dst=some d/\Je st.toSt ops j want=some (Be key)/\Fs H st.nx key:=by
 unfold dgd at h;split at h
 ·rename_i j want d' hg hd;split at h
  ·rename_i aF_ hk;simp only [injEq,Prod.mk.injEq]at h;obtain⟨rfl,rfl⟩:=h;grind [O9]
  ·cases h
 ·cases h
theorem uj (abM:nU P I rec) (il:Hl): ∀ (l:List Oper) (k:Nat) (st:Af T) (H:As T),AH H st-> ∀ (R:Type) (K:Af T->Option R) (r:R),aR Γ rec ops il l k st R K=some r->
 ∀ PK:St->Prop,(∀ H' an,Nx H st H' an->an.pre=st.pre->K an=some r->PK an.toSt)->Vw P I ops l st.toSt PK
 | [],k,st,H,hw,R,K,r,hr,PK,hK=>by simp only [aR]at hr;obtain⟨s,⟨⟨H1,n1⟩,p1,w1⟩,hr⟩:=GE k il hw R _ r hr;exact⟨s.toSt,w1,hK H1 s n1 p1 hr⟩
 | o::rest,k,st0,H,hw,R,K,r,hr,PK,hK=>by
   simp only [aR]at hr;obtain⟨st,⟨⟨H0,n0⟩,p0,w0⟩,hr⟩:=GE k il hw R _ r hr;refine⟨st.toSt,w0,?_⟩;replace hK: ∀ H' an,Nx H0 st H' an->an.pre=st.pre->K an=some r->PK an.toSt:=fun H' s n p q=>hK H' s (n0.trans n) (p.trans p0) q;replace hw:=n0.ok;have nxt: ∀ (H1:As T) (an:Af T),Nx H0 st H1 an->an.pre=st.pre->aR Γ rec ops il rest (k+1) an R K=some r->Vw P I ops rest an.toSt PK:=fun H1 an n1 p1 q=>
    uj abM il rest (k+1) an H1 n1.ok R K r q PK fun H' s n p q=>hK H' s (n1.trans n) (p.trans p1) q
   split at hr
   ·obtain⟨an,⟨⟨H1,n1⟩,p1,w1⟩,hr⟩:=jF hw o R _ r hr;grind
   ·rename_i sp _;obtain⟨an,⟨⟨H1,n1⟩,p1,w1⟩,hr⟩:=ui hw o sp R _ r hr;grind
   ·rename_i h _;obtain⟨g1,g2⟩:=SZ (PK:=fun s=>Vw P I ops rest s PK) abM hw hr fun H' s n p q=>nxt H' s n p q;simp only [fB,g1];exact .inl g2
   ·rename_i sh h _;unfold jn at hr;obtain⟨g1,g2⟩:=SZ (PK:=fun s=> ∃ s',Wk s s'/\Vw P I ops rest s' PK) abM hw hr fun H' s n p q=>by
     split at q
     ·rename_i v hg;dsimp only at q;split at q
      ·rename_i s' hi;obtain⟨H2,n2⟩:=Iq.afs hw (Ex sh.ts v) hi;have hp:s'.pre=st.pre:=by
        unfold Iq.inst at hi;split at hi
        ·rename_i s1 us h1;split at hi
         ·rename_i s2 us2 h2;injection hi with hi;subst hi;obtain⟨⟨Ha,na⟩,nb,_,_,np,_⟩:=Lg (sh.agP hw) (Ex sh.ts v) h1;obtain⟨_,_,_,mp,_⟩:=Nb na nb h2;rw [mp,np];rfl
         ·cases hi
        ·cases hi
       grind [Iq.ae1]
      ·cases q
     ·cases q
    simp only [fB,g1];refine .inl ?_;intro F a w G Q hI hR;refine Oper.wp_mono (fun _ _ ⟨_,G',⟨s',hwk,hp⟩,hR'⟩=>?_) (g2 F a w G Q hI hR);obtain⟨G'',q⟩:=hwk _ _ _ _ hR';grind
   ·rename_i ks ke kd h _;split at hr
    ·rename_i key d hfk hdg;unfold jn at hr;dsimp only at hr;obtain⟨j,want,e1,e2,e3,e4⟩:=zb hw hdg;have main: ∀ x:P6 T.den kd,aR Γ rec ops il rest (k+1) (((kpt ks ke).base st).put (some d) (.g key (.c (.k kd x)))) R K=some r->Vw P I ops rest (((kpt ks ke).base st).put (some d) (.g key (.c (.k kd x)))).toSt PK:=fun x q=>by have nb:=Iq.agP (kpt ks ke) hw;obtain⟨H2,n2⟩:=Mk (st:=(kpt ks ke).base st) nb.ok e4 (some d) (v:= .c (.k kd x)) (by grind [DV.ok,DC.ok]);exact nxt H2 _ (nb.trans n2) (by rw [AS];rfl) q
     simp only [fB,e1,e3];refine .inl ⟨fun hc=> .inl ?_,fun hc=>?_⟩
     ·rw [if_pos hc]at hr;obtain⟨⟨Hu,nu⟩,_,hu⟩:=Nk (l:=yZ o) hc hw e4;obtain⟨_,g2⟩:=SZ (PK:=fun s=> ∃ s',Wk s s'/\Vw P I ops rest s' PK) abM nu.ok hr fun H' b n' _ q=>by
       have n:=nu.trans n';split at q
       ·rename_i v0 x hg hx;refine⟨_,?_,main x q⟩;have hwk:=Iq.ae1 hw n hg (s1:=(kpt ks ke).base st) rfl;intro F a w G hR;obtain⟨G',q'⟩:=hwk F a w G hR;refine⟨G',?_⟩;rw [Af.h_];refine q'.afV ?_;have hsl:Ab w G (b.toSt.get d) (a.tmps.getD d Go.undef):=hR.v_ d;rw [b.aa_ d,tT hx]at hsl;have hf:(Bm T.enc kd x).flat =true:=by cases kd<;>first | rfl | cases hfk
        simp_all [DV.toV,DC.toC,Ab,AU]
       ·cases q
      intro F a w G Q hI hR;have g3:o.wp P a w (mv F fun s=> ∃ s',Wk s s'/\Vw P I ops rest s' PK) Q:=g2 F a w G Q hI (hu F a w G hR);grind [Oper.wp_mono,Ach]
     ·rw [if_neg (by rw [hc];simp)]at hr;grind [za,wG,Af.h_,DV.toV]
    ·cases hr
end
abbrev IT:Iq:=⟨[],[],[],[]⟩
abbrev AF:Sg:= .v (.k (.int .i64))
abbrev Lk:Sg:= .v (.k .bool)
abbrev Bd (n:Nat):Nat×VSp:=(n, .c AF)
abbrev ES (n:Nat):Nat×VSp:=(n, .c Lk)
abbrev Kt (n:Nat):Nat×VSp:=(n, .c (.v (.k .str)))
end Go.PL
namespace Go.PL
open Go Go.RowKit
variable {T:Bo}
def fnl:DV T->Bool
 | .c (.k k _)=>P7 k
 | .c (.c (.e_ _))=>true
 | _=>false
theorem AfG {v:DV T} (h:fnl v=true) {w:World} {G:AG} {a b:Value} (ha:Ab w G v.toV a) (hb:Ab w G v.toV b):a=b:=by
 unfold fnl at h;split at h
 ·rename_i k x;have hf:(Bm T.enc k x).flat =true:=by cases k<;>first | rfl | cases h
  grind [DV.toV,DC.toC,Ab,AU]
 all_goals grind [DV.toV,DC.toC,Ab,Ad]
structure QG where
 i:Nat
 d:Nat
 x:Operand
 id:Ah
 off:Nat
 ag:Bool
 n:Nat
 te:Nat
 ts:Nat
def XQ (P:Program) (ops:Array Oper) (lz:List Nat) (H:As T) (nx:Nat) (q:QG):Prop:=
 ∃ o t cs,ops[q.i]? =some o/\o.op= .load t q.x/\o.dst=some q.d/\K0 P t=some (q.ag,q.n)/\q.te<nx/\q.ts<nx/\(H.e q.te).id =q.id/\(H.e q.te).x = .box cs/\
   FQ q.ag q.off q.n cs.length=true/\H.v q.ts=C3 q.ag q.off q.n cs/\(fnl (H.v q.ts)=true\/q.i∈lz)
theorem XQ.nx {P:Program} {ops:Array Oper} {lz:List Nat} {H H':As T} {st an:Af T} {q:QG} (h:XQ P ops lz H st.nx q) (hn:Nx H st H' an):XQ P ops lz H' an.nx q:=by obtain⟨o,t,cs,h1,h2,h3,h4,h5,h6,h7,h8,h9,h10,h11⟩:=h;have e1:=(hn.ext q.te h5).2;have e2:=(hn.ext q.ts h6).1;exact⟨o,t,cs,h1,h2,h3,h4,lt_of_lt_of_le h5 hn.le,lt_of_lt_of_le h6 hn.le,by grind,by grind,h9,by grind,by grind⟩
def wH (st:Af T) (q:QG):Bool:=match st.ev q.x,Hg st.so q.id,Ld st q.id with
 | .c (.c (.ptr id off)),some e,some _=>Bf id q.id&&(Nat.beq off q.off&&(Nat.beq e.tag q.te&&(Nat.beq (Zs st.tm q.d) (q.ts+1)&&Nat.blt q.d st.m)))
 | _,_,_=>false
theorem Xm {st:Af T} {id:Ah} {cs:List (DC T)} (h:Ld st id=some cs): ∃ e,Hg st.so id=some e/\e.x= .box cs:=by grind [Ld,Af.look]
section
variable {H:As T} {P:Program} {st:Af T}
theorem gS {t:TypeId} {ag:Bool} {n:Nat} {id:Ah} {off:Nat} {cs:List (DC T)} (hw:AH H st) (ht:K0 P t=some (ag,n)) (hb:Ld st id=some cs) (ho:FQ ag off n cs.length=true):
 (C3 ag off n cs).ok H st.nx/\(DM P t st.toSt (.c (.ptr id off))).1/\(DM P t st.toSt (.c (.ptr id off))).2=(C3 (T:=T) ag off n cs).toV :=by
 have hd:=ZE (P:=P) (t:=t) (key:=[]) (v:=(.c (.c (.ptr id off)):DV T)) hw (by grind [DV.ok,DC.ok]) (DV T) some (C3 ag off n cs) (by simp only [mZ,ht,hb,ho];rfl);obtain⟨v,h1,h2⟩:=hd;injection h2 with h2;subst h2;have:=h1 rfl;grind [DV.toV,DC.toC]
theorem YF (hw:AH H st) {ops:Array Oper} {lz:List Nat} {q:QG} (hq:XQ P ops lz H st.nx q) (h:wH st q=true) {o:Oper} (ho:ops[q.i]? =some o) {F:Fr} {a:Act} {w:World} {G:AG} (hR:R F st.toSt a w G):
 o.dst=some q.d/\ ∃ v,(q.i∈lz\/v=a.tmps.getD q.d Go.undef)/\Ab w G (st.toSt.tm.getD q.d .undef) v/\ ∀ w',C1 w w'->(execOp a.eval o).run P w'= .ok (.value v) w':=by
 obtain⟨o',t,cs,h1,h2,h3,h4,h5,h6,h7,h8,h9,h10,h11⟩:=hq;rw [h1]at ho;injection ho with ho;subst ho;unfold wH at h;split at h
 ·rename_i id off e cs' hev hlk hbx;simp only [and_eq_true,beq_eq,AN,blt_eq]at h;obtain⟨k1,k2,k3,k4,k5⟩:=h;subst k1 k2;obtain⟨e',l1,l2⟩:=Xm hbx;rw [hlk]at l1;injection l1 with l1;subst l1;have hm:=(CY hlk).1;have he:=(hw.so e hm).2.1;rw [k3]at he;rw [he,l2]at h8;injection h8 with h8;subst h8;obtain⟨m1,m2,m3⟩:=gS hw h4 hbx h9;have ahy:=st.abS q.x;rw [hev]at ahy;have asm:st.toSt.arg true q.x=(True, .c (.ptr q.id q.off)):=by grind [St.arg,DV.toV,DC.toC]
  have hs:(DZ P st.toSt true o'.op).1:=by rw [h2];show (rd P st.toSt true (.load t q.x)).1;simp_all [rd,M_]
  obtain⟨v,q1,q2⟩:=F6 hR rfl hs;have e2:(DZ P st.toSt true o'.op).2=(C3 (T:=T) q.ag q.off q.n cs').toV :=by rw [h2];show (rd P st.toSt true (.load t q.x)).2=_;grind [rd,M_]
  rw [e2]at q1;obtain⟨_,hv⟩:=Zt hw.tm k4;have avh:st.get q.d=C3 q.ag q.off q.n cs':=by unfold Af.get;rw [show Nat.blt q.d st.m=true by simpa using k5];grind
  have hsl:=hR.v_ q.d;have hg:st.toSt.tm.getD q.d .undef =(st.get q.d).toV :=st.aa_ q.d;grind [AfG]
 ·cases h
theorem zc (hw:AH H st) {ops:Array Oper} {lz:List Nat} {q:QG} (hq:XQ P ops lz H st.nx q) (h:wH st q=true) {o:Oper} (ho:ops[q.i]? =some o) (hc:DO o=1) {F:Fr} {a:Act} {w:World} {G:AG} (hR:R F st.toSt a w G):wd P (q.i∈lz) o a w:=by obtain⟨h1,v,h2,h3,h4⟩:=YF hw hq h ho hR;intro d hd;rw [h1]at hd;injection hd with hd;subst hd;exact⟨v,h2,(by grind)⟩
theorem zd {I:World->Prop} (hw:AH H st) {o:Oper} (hk:Ck o.op= .rd) {v:DV T} (hv:Rd H P st [] o.op v):Yld P I o st.toSt (st.put o.dst v).toSt :=fun F a w G hI hR=>by obtain⟨h1,h2,h3⟩:=hv rfl;obtain⟨u,q1,q2⟩:=F6 hR rfl h2;change Ab w G (DZ P st.toSt true o.op).2 u at q1;rw [show (DZ P st.toSt true o.op).2=v.toV from h3]at q1;exact⟨u,G,q2,by rw [Af.h_];exact hR.put q1⟩
end
def AfH (P:Program) (z:Bool) (o:Oper) (i:Nat) (st:Af T):Option (Af T×QG):=match o.op,o.dst with
 | .load t x,some d=>match K0 P t,st.ev x with
   | some (ag,n), .c (.c (.ptr id off))=>match Ld st id,Hg st.so id with
     | some cs,some e=>match FQ ag off n cs.length&&(fnl (C3 ag off n cs)||z)with
       | true=>some (st.put (some d) (C3 ag off n cs),⟨i,d,x,id,off,ag,n,e.tag,st.nx⟩)
       | false=>none
     | _,_=>none
   | _,_=>none
 | _,_=>none
theorem Aci {H:As T} {P:Program} {I:World->Prop} {st an:Af T} (hw:AH H st) {ops:Array Oper} {lz:List Nat} {z:Bool} {o:Oper} {i:Nat} {q:QG} (hz:z=true->i∈lz) (hi:ops[i]? =some o) (h:AfH P z o i st=some (an,q)):
 ∃ H',Nx H st H' an/\an.pre=st.pre/\Yld P I o st.toSt an.toSt/\XQ P ops lz H' an.nx q/\q.i=i:=by
 unfold AfH at h;split at h
 ·rename_i t x d hop hd;split at h
  ·rename_i ag n id off ht hev;split at h
   ·rename_i cs e hbx hlk;split at h
    ·rename_i hb;simp only [and_eq_true,or_eq_true]at hb;injection h with h;injection h with h1 h2;subst h1 h2;obtain⟨m1,m2,m3⟩:=gS hw ht hbx hb.1;have he:=C6.agv H st.nx (C3 (T:=T) ag off n cs);obtain⟨e',l1,l2⟩:=Xm hbx;rw [hlk]at l1;injection l1 with l1;subst l1;obtain⟨k1,k2,k3⟩:=hw.so e (CY hlk).1;have hnx:Nx H st (H.agv st.nx (C3 ag off n cs)) (st.put (some d) (C3 ag off n cs)):=by
      obtain⟨H',hn⟩:=Af.aao hw (some d) m1;refine⟨he,by simp [Af.put],?_,?_,?_,hw.nd⟩
      ·intro s t' w' hm;simp only [Af.put,mem_cons,Prod.mk.injEq]at hm ⊢;rcases hm with ⟨rfl,rfl,rfl⟩ | hm
       ·exact⟨Nat.lt_succ_self _,by simp [As.agv],DV.ac6 he (le_succ _) m1⟩
       ·exact BY he (le_succ _) hw.tm s t' w' hm
      ·exact fun f hf=>BY he (le_succ _) (hw.gh f hf)
      ·exact Fu he (le_succ _) hw.so
     refine⟨_,hnx,AS _ _ _,?_,⟨o,t,cs,hi,hop,hd,ht,lt_of_lt_of_le k1 hnx.le,by simp [Af.put],?_,?_,hb.1,by simp [As.agv],?_⟩,rfl⟩
     ·have hrd:Rd H P st [] o.op (C3 ag off n cs):=fun _=>by
       have ahy:=st.abS x;rw [hev]at ahy;have asm:st.toSt.arg (Be []) x=(True, .c (.ptr id off)):=by grind [St.arg,DV.toV,DC.toC]
       rw [hop];refine⟨m1,?_,?_⟩
       ·show (rd P st.toSt (Be []) (.load t x)).1;simp_all [rd,M_]
       ·show (rd P st.toSt (Be []) (.load t x)).2=_;grind [rd,M_]
      have:=zd (I:=I) hw (by rw [hop];rfl) hrd;grind
     ·rw [(hnx.ext e.tag k1).2,k2];exact(CY hlk).2.1
     all_goals grind [As.agv]
    ·cases h
   ·cases h
  ·cases h
 ·cases h
end Go.PL
set_option linter.all false
namespace Go.PL
open Go Go.RowKit
def Fr.agL (F:Fr) (b:Nat):Fr:=⟨F.w0,fun x=>F.av x/\x ≠ b,fun x=>F.old x\/x=b,F.I,F.gv⟩
def ze (F:Fr) (old:Nat->Prop):Prop:= ∀ w':World,F.w0.heap.size<=w'.heap.size->(∀ x,x<F.w0.heap.size-> ¬old x->w'.heap[x]? =F.w0.heap[x]?)->F.I w'
section
variable {F:Fr} {st:St} {a:Act} {w:World} {G:AG}
theorem R.unnamed (h:R F st a w G) {b:Nat} (hav:F.av b) (j:Ah):G.m_ j ≠ some b:=fun q=>by
 rcases h.new j b q with k | k
 ·have:=h.aaS b hav;omega
 ·exact h.aah b k hav
theorem R.axJ (h:R F st a w G) {b:Nat} (hav:F.av b) (hinv:ze F (fun x=>F.old x\/x=b)) (e:Aw) (nv:Option Value) (hp:e.pu=true->Ao e.cs=true)
 (he:Bc w (B9 (F.agL b) G e.id (some b) nv) (e.kill e.id)):R (F.agL b) (st.new e) a w (B9 (F.agL b) G e.id (some b) nv):=by
 have hun:=h.unnamed hav;have hwr:G.wr b:=(h.wr b).2 (.inl hav);have hbw:b<w.heap.size:=lt_of_lt_of_le (h.aaS b hav) h.u_;have hk:Co G (B9 (F.agL b) G e.id (some b) nv) w w:=by
  refine⟨le_refl _,fun _ _ _=>rfl,fun x hx hw=>?_,fun _ _ _ _=>Cg.same rfl⟩;simp only [B9,Fr.agL]at hw;rcases hw with hw | ⟨i,hi⟩
  ·exact(h.wr x).2 (.inl hw.1)
  ·split at hi
   ·grind
   ·exact(h.wr x).2 (.inr ⟨i,hi⟩)
 refine {
  dfr:=h.dfr
  size:=by simp [St.new,St.kill,h.size]
  v_:=fun i=>?_
  F_:=?_
  store:=fun e' he'=>?_
  deep:=fun e' he'=>?_
  x_:=fun e' he'=>?_
  nodup:=?_
  inj:=fun i j x hi hj=>?_
  lt:=fun i x hi=>?_
  new:=fun i x hi=>?_
  wr:=fun _=>Iff.rfl
  aaS:=fun x hx=>h.aaS x hx.1
  inv:=hinv
  aah:=fun x hx hy=>?_
  os:=h.os,tape:=h.tape,output:=h.output,u_:=h.u_
  ext:=fun x hx ho=>h.ext x hx fun q=>ho (.inl q)}
 ·simp only [St.new,St.kill];rw [F4 (by simp [Ff,V.p_])];exact Ab.mono hk _ _ (by grind [Dl,UQ]) (UT (h.v_ i))
 ·simp only [St.new,St.kill];exact Aq.mono hk _ _ (by grind [Dl,Rf]) (Re h.F_)
 ·simp only [St.new,St.kill]at he';rcases Jw he' with ⟨rfl,_⟩ | he'
  ·exact he
  ·simp only [mem_map,mem_filter,and_eq_true]at he';obtain⟨d,⟨hd,Tj,_⟩,rfl⟩:=he';have adF:d.id ≠ e.id:=by grind
   exact Cx hk (Dl (F:=F.agL b) (fun i hi he'=>by subst he';rw [mf (h.x_ d hd)]at hi;cases hi)) (by grind [B9,Aw.L_]) (fun _ _=>rfl) (fu (h.store d hd))
 ·simp only [St.new,St.kill]at he';rcases Jw he' with ⟨rfl,h1,h2⟩ | he'
  ·exact BC.aph h1 h2
  ·simp only [mem_map,mem_filter,and_eq_true]at he';obtain⟨d,⟨hd,Tj,hmd⟩,rfl⟩:=he';have adF:d.id ≠ e.id:=by grind
   have hmk:Fh (d.kill e.id).id =true-> ∀ k,BO k (d.kill e.id).id ≠ e.id:=by grind [Aw.L_,lZ]
   exact BC.mono hk (by grind [B9,Aw.L_]) (by grind [B9]) (fun _ _=>rfl) (fun _ _ _ _=>rfl) (h.deep d hd).kill
 ·simp only [St.new,St.kill]at he';rcases Jw he' with ⟨rfl,_⟩ | he'
  ·exact PZ hp
  ·simp only [mem_map,mem_filter]at he';obtain⟨d,⟨hd,Tj⟩,rfl⟩:=he';exact PZ (h.x_ d hd)
 ·have ag1:List.Sublist (((st.new e).so.map (·.id))) (e.id::((st.so.filter (fun d=>d.id != e.id&& !(C4 e.id&&Fh d.id))).map (·.id))):=by
   simp only [St.new,St.kill,Wy];split
   all_goals simp_all [Function.comp_def,Aw.L_]
  refine List.Sublist.nodup ag1 (nodup_cons.2 ⟨by grind,?_⟩);exact List.Sublist.nodup (by grind [filter_sublist]) h.nodup
 ·simp only [B9]at hi hj;split at hi<;>split at hj
  ·simp_all
  ·grind
  ·grind
  ·exact h.inj i j x hi hj
 ·simp only [B9]at hi;split at hi
  ·grind
  ·exact h.lt i x hi
 ·simp only [B9]at hi;split at hi
  ·injection hi with hi;exact .inr (.inr hi.symm)
  ·exact(h.new i x hi).imp (fun q=>q) .inl
 ·rcases hx with q | q
  ·exact h.aah x q hy.1
  ·exact hy.2 q
def Fr.take (F:Fr) (w1:World) (b:Nat) (G:AG):Fr:=⟨w1,fun x=>F.av x\/x=b,fun x=> ∃ i,G.m_ i=some x,F.I,F.gv⟩
theorem R.taken (h:R F st a w G) {w1:World} (ho:OL w w1) (hs:C1 w w1) {b:Nat} (hb:b=w.heap.size) (hlt:b<w1.heap.size) (hinv:ze (F.take w1 b G) (F.take w1 b G).old) {d:Nat} {v:Value} (hd:st.get d= .undef):
 ∃ G1,R (F.take w1 b G) st (a.put (some d) v) w1 G1:=by
 have hk:Co G (⟨G.m_,G.own,fun x=>(F.av x\/x=b)\/ ∃ i,G.m_ i=some x⟩:AG) w w1:=by
  refine⟨hs.size,fun x hx _=>hs.block x hx,fun x hx hw=>?_,fun i x h1 _=>Cg.same (hs.block x (h.lt i x h1))⟩;rcases hw with (hw | hw) | hw
  ·exact(h.wr x).2 (.inl hw)
  ·omega
  ·exact(h.wr x).2 (.inr hw)
 have ag: ∀ S:Ah->Prop,JQ S G (⟨G.m_,G.own,fun x=>(F.av x\/x=b)\/ ∃ i,G.m_ i=some x⟩:AG):=fun _ _ _=>⟨rfl,rfl⟩;refine⟨⟨G.m_,G.own,fun x=>(F.av x\/x=b)\/ ∃ i,G.m_ i=some x⟩,{
  dfr:=h.dfr
  size:=by simp [Act.put,h.size]
  v_:=fun i=>?_
  F_:=Aq.mono hk _ _ (ag _) h.F_
  store:=fun e he=>Cx hk (ag _) ⟨rfl,rfl⟩ (fun x hx=>hs.block x (h.lt _ x hx)) (h.store e he)
  deep:=fun e he=>BC.mono hk ⟨rfl,rfl⟩ (by grind) (fun x hx=>hs.block x (h.lt _ x hx)) (fun _ _ x hx=>hs.block x (h.lt _ x hx)) (h.deep e he)
  x_:=h.x_,nodup:=h.nodup,inj:=h.inj
  lt:=fun i x hi=>lt_of_lt_of_le (h.lt i x hi) hs.size
  new:=fun i x hi=> .inr ⟨i,hi⟩
  wr:=fun _=>Iff.rfl
  aaS:=fun x hx=>?_
  inv:=hinv
  aah:=fun x ⟨i,hi⟩ hx=>?_
  os:=rfl,tape:=rfl,output:=rfl,u_:=le_refl _
  ext:=fun _ _ _=>rfl}⟩
 ·by_cases hi:d=i
  ·subst hi;have:st.tm.getD d .undef = .undef :=hd;grind [Ab]
  ·have e:(a.put (some d) v).tmps.getD i Go.undef=a.tmps.getD i Go.undef:=by simp_all [Act.put]
   rw [e];exact Ab.mono hk _ _ (ag _) (h.v_ i)
 ·rcases hx with hx | hx
  ·exact lt_of_lt_of_le (h.aaS x hx) (le_trans h.u_ hs.size)
  ·show x<w1.heap.size;omega
 ·rcases hx with hx | hx
  ·exact h.unnamed hx i hi
  ·have:=h.lt i x hi;omega
end
structure Ll (F0 F:Fr) (D:List (Nat×Nat)):Prop where
 amM:F.I=F0.I
 gv:F.gv=F0.gv
 av: ∀ x,F.av x↔F0.av x\/ ∃ i,(i,x)∈D
 size:F0.w0.heap.size<=F.w0.heap.size
 kept: ∀ x,x<F0.w0.heap.size-> ¬F0.old x-> ¬F.old x/\F.w0.heap[x]? =F0.w0.heap[x]?
 old: ∀ x,F.old x->F0.w0.heap.size<=x\/F0.old x
 new: ∀ p∈D,F0.w0.heap.size<=p.2
 os:F.w0.os=F0.w0.os
 tape:F.w0.tape=F0.w0.tape
 output:F.w0.output=F0.w0.output
theorem Ll.start (F:Fr):Ll F F []:=⟨rfl,rfl,fun x=>by simp,le_refl _,(by grind),fun _ h=> .inr h,(by grind),rfl,rfl,rfl⟩
def zg (F:Fr):Prop:=ze F F.old
section
variable {F0 F:Fr} {D:List (Nat×Nat)} {st:St} {a:Act} {w:World} {G:AG}
theorem Ll.back (t:Ll F0 F []) (hi:zg F0) (hd: ∀ x,F0.old x-> ¬F0.av x) (hl: ∀ x,F0.av x->x<F0.w0.heap.size) (h:R F st a w G):R F0 st a w G where
 dfr:=h.dfr
 size:=h.size
 v_:=h.v_
 F_:=by rw [<-t.gv];exact h.F_
 store:=h.store
 deep:=h.deep
 x_:=h.x_
 nodup:=h.nodup
 inj:=h.inj
 lt:=h.lt
 new:=fun i x hx=>by
  rcases h.new i x hx with q | q
  ·exact .inl (le_trans t.size q)
  ·exact t.old x q
 wr:=fun x=>by rw [h.wr,t.av];simp
 aaS:=hl
 inv:=hi
 aah:=hd
 os:=h.os.trans t.os
 tape:=h.tape.trans t.tape
 output:=h.output.trans t.output
 u_:=le_trans t.size h.u_
 ext:=fun x hx ho=>by obtain⟨k1,k2⟩:=t.kept x hx ho;exact(h.ext x (by grind) k1).trans k2
theorem Ll.auC (t:Ll F0 F D) (hi:zg F0) {old:Nat->Prop} (ho: ∀ x,x<F0.w0.heap.size-> ¬F0.old x-> ¬old x):ze F old:=fun w' hs hw=>by rw [t.amM];exact hi w' (le_trans t.size hs) fun x hx hx2=>(hw x (lt_of_lt_of_le hx t.size) (ho x hx hx2)).trans (t.kept x hx hx2).2
end
end Go.PL
set_option linter.all false
namespace Go.PL
open Go Go.RowKit
variable {T:Bo}
def jX:C->Bool
 | .int .. =>true
 | .bool _=>true
 | .str _=>true
 | .acu =>true
 | .aak =>true
 | .s_ =>true
 | .fn _=>true
 | .sl 0 []=>true
 | _=>false
theorem zh {c:C} (h:jX c=true) {w w':World} {G G':AG} {v:Value} (hr:Ad w G c v):Ad w' G' c v:=by
 unfold jX at h;split at h
 all_goals simp_all [Ad]
theorem nV {w w':World} {G G':AG}: ∀ {cs:List C} {vs:List Value},cs.all jX=true->Aj w G cs vs->Aj w' G' cs vs
 | [],[],_,_=>by simp [Aj]
 | [],_::_,_,h=>by simp [Aj]at h
 | _::_,[],_,h=>by simp [Aj]at h
 | c::cs,v::vs,h,hr=>by simp only [all_cons,and_eq_true]at h;simp only [Aj]at hr ⊢;exact⟨zh h.1 hr.1,nV h.2 hr.2⟩
theorem zi {c:C} (h:jX c=true) (i:Ah):c.p_ i=false:=by
 unfold jX at h;split at h
 all_goals first
  | rfl
  | grind
theorem nW: ∀ {cs:List C},cs.all jX=true-> ∀ i,BP i cs=false
 | [],_,_=>rfl
 | c::cs,h,i=>by simp only [all_cons,and_eq_true]at h;simp only [BP,zi h.1,nW h.2,Bool.or_self]
def zj (o:Oper):Bool:=match o.guard,o.dst,o.op with
 | none,some _, .alloc _=>true
 | none,some _, .buildSlice _ _ ps=>ps.toList.all fun p=>BL p.2
 | _,_,_=>false
def Vx:DX T->List C
 | .box cs=>Ar cs
 | .row E l=>l.flatMap (T.enc E)
 | .deep .. =>[]
def jY:DX T->Nat->Value
 | .row _ l,b=> .slice (some ⟨b,0,none⟩) l.length l.length
 | _,b=> .pointer (some ⟨b,0,none⟩)
def aS:DX T->Ah->C
 | .row ..,id=> .e_ id
 | _,id=> .ptr id 0
def mkX (P:Program) (st:Af T) (o:Oper):Option (DX T):=match o.op with
 | .alloc t=>match ZI P t with
   | some cs=>match (Ar cs).all jX with
     | true=>some (.box cs)
     | false=>none
   | none=>none
 | .buildSlice t len ps=>match Ej P t,Hs st [] ps.toList with
   | some (E,n,_),some vs=>match Rx P E with
     | some z=>match W3 (fun i=>some (i*n,n)) ((List.replicate len z).flatMap id) (vs.map fun x=>(x.1,Vc x.2))with
       | some cs=>match LK E len cs with
         | some l=>match (Nat.beq n (T.sz E)&&(Nat.beq z.length n&&(Nat.blt 0 n&&(Nat.ble (len*n) (2 ^ 24)&&Nat.beq cs.length (len*n)))))&&(Ar cs).all jX with
           | true=>some (.row E l)
           | false=>none
         | none=>none
       | none=>none
     | none=>none
   | _,_=>none
 | _=>none
theorem S1 {st an:Af T}: ∀ {ps:List (Nat×Operand)},(ps.all fun p=>BL p.2)=true->Hs st [] ps=Hs an [] ps
 | [],_=>rfl
 | (i,x)::r,h=>by
   simp only [all_cons,and_eq_true]at h;have ih:=S1 (st:=st) (an:=an) h.2;have hx:st.arg [] x=an.arg [] x:=by
    cases x with
    | const v=>rfl
    | _=>cases h.1
   simp only [Hs,ih,hx]
theorem Vy {P:Program} {st an:Af T} {o:Oper} (h:zj o=true):mkX P st o=mkX P an o:=by grind [zj,mkX,S1]
structure AfI (x:DX T) (arr:Array Value) (Tt:TypeId):Prop where
 ind:(Vx x).all jX=true
 rel: ∀ w G,Aj w G (Vx x) arr.toList
 row: ∀ E l,x= .row E l->Tt=E/\arr.size=l.length*T.sz E/\l.length<=maxLen
 nd: ∀ E n l h,x ≠ .deep E n l h
 ok:x.ok
theorem Acj {P:Program} {H:As T} {st:Af T} {o:Oper} {x:DX T} (hw:AH H st) (h:mkX P st o=some x) {F:Fr} {a:Act} {w:World} {G:AG} (hR:R F st.toSt a w G):
 ∃ arr Tt,(execOp a.eval o).run P w= .ok (.value (jY x w.heap.size)) (w.alloc (.cells arr Tt))/\AfI x arr Tt:=by
 unfold mkX at h;split at h
 ·rename_i t hop;split at h
  ·rename_i cs hz;split at h
   ·rename_i hi;injection h with h;subst h;obtain⟨z1,z2⟩:=OZ hz;obtain⟨i,z,hi1,hzv,hc⟩:=Rh z1;refine⟨z.cells,t,?_,hi,fun w G=>K6 hc,(by grind),(by grind),z2⟩;simp_all [execOp,Instr.alloc,aeG,newVar,newRow,jY]
   ·cases h
  ·cases h
 ·rename_i t len ps hop;split at h
  ·rename_i E n by' vs abq hp;split at h
   ·rename_i z hz;split at h
    ·rename_i cs hf;split at h
     ·rename_i l hl;split at h
      ·rename_i hg;injection h with h;subst h;simp only [and_eq_true,beq_eq,blt_eq,ble_eq]at hg;obtain⟨⟨g1,g2,g3,g4,g5⟩,g6⟩:=hg;subst g1;obtain⟨p1,p2,p3⟩:=Gb (key:=[]) hw (fun _ hl=>by cases hl) rfl hp;obtain⟨z1,z2⟩:=Ip hz;obtain⟨f1,_⟩:=Kk hf;rw [Rz z (by omega),ZX]at f1;change (st.toSt.parts true ps.toList).1 at p2;change (st.toSt.parts true ps.toList).2=nc vs at p3;rw [<-p3]at f1;obtain⟨hlen,r,hr⟩:=En hl;have hrn:r=[]:=by have:=congrArg List.length hr;grind [AM,BQ,AQ,List.length_eq_zero_iff]
       subst hrn;rw [List.append_nil]at hr;obtain⟨abh,q1,q2,q3,q4,q5⟩:=J3 hR abq z1 f1 p2 (by rw [AM];exact g2) g3 g4;refine⟨abh,E,?_,by grind [Vx],(by grind [Vx,nV]),fun E' l' q=>?_,(by grind),trivial⟩
       ·simp_all [execOp,jY]
       grind
      ·cases h
     ·cases h
    ·cases h
   ·cases h
  ·cases h
 ·cases h
theorem wI {H:As T} {st s:Af T} {x:DX T} {arr:Array Value} {Tt:TypeId} (hw:AH H st) (hx:AfI x arr Tt) {F:Fr} {a:Act} {w:World} {G:AG} (hR:R F st.toSt a w G) {b:Nat} (hav:F.av b) (hinv:ze F (fun y=>F.old y\/y=b))
 (hh:w.heap[b]? =some (.cells arr Tt (0,0))) {d:Nat} (hv:a.tmps.getD d Go.undef=jY x b) (hs:st.new (d::st.pre) x=some s): ∃ G',R (F.agL b) (s.put (some d) (.c (.c (aS x (d::st.pre))))).toSt a w G':=by
 obtain⟨_,aid,_⟩:=Af.acv hw hx.ok hs;have z_:(⟨d::st.pre,0,x⟩:DE T).toE.cs =Vx x:=by
  unfold DE.toE;cases x with
  | box cs=>rfl
  | row E l=>rfl
  | deep E n l h=>exact absurd rfl (hx.nd E n l h)
 have hk:((⟨d::st.pre,0,x⟩:DE T).toE.kill (d::st.pre))=(⟨d::st.pre,0,x⟩:DE T).toE :=Aw.agE (by
  simp only [Aw.fre,or_eq_true,not_eq_true'];right;rw [z_];exact nW hx.ind _)
 have hr0: ∀ G',An w G' (Vx x) b 0:=fun G'=>An.aaA (hx.rel w G') (BE hh (rest:=[]) (by grind));have key: ∃ nv:Option Value,(∀ G',Bc w (B9 (F.agL b) G' (d::st.pre) (some b) nv) (⟨d::st.pre,0,x⟩:DE T).toE)/\(∀ G',Ad w (B9 (F.agL b) G' (d::st.pre) (some b) nv) (aS x (d::st.pre)) (jY x b)):=by
  cases x with
  | box cs=>
    refine⟨none,fun G'=>mg rfl ⟨b,Tt,arr,by simp [B9,DE.toE],hh,?_,hr0 _⟩,fun G'=>?_⟩
    ·have:(Ar cs).length =arr.toList.length:=(hx.rel w G).length;show arr.size=(Ar cs).length;grind
    ·simp only [aS,jY,Ad];exact⟨b,by simp [B9],rfl⟩
  | row E l=>
    obtain⟨e1,e2,e3⟩:=hx.row E l rfl;refine⟨some (.slice (some ⟨b,0,none⟩) l.length l.length),fun G'=>JX rfl ⟨?_,_,by simp [B9,DE.toE], .inr ⟨b,l.length,arr,rfl,by simp [B9,DE.toE],by grind,le_refl _,e3,e2,hr0 _⟩⟩,fun G'=>?_⟩
    ·show (l.flatMap (T.enc E)).length =_;grind [BQ,AQ]
    ·simp only [aS,jY,Ad];exact⟨by simp [B9],rfl⟩
  | deep E n l h=>exact absurd rfl (hx.nd E n l h)
 obtain⟨nv,k1,k2⟩:=key;have hid:(⟨d::st.pre,0,x⟩:DE T).toE.id =d::st.pre:=DE.toE_id _;have aiA:=hR.axJ hav hinv (⟨d::st.pre,0,x⟩:DE T).toE nv (fun hp=>by
  cases x with
  | box cs=>cases hp
  | row E l=>exact AV _ (fun y=>by have:=Dh (T:=T) (.s E) y;grind [Ev,V.pure]) _
  | deep E n l h=>exact absurd rfl (hx.nd E n l h)) (by grind)
 rw [hid]at aiA;refine⟨B9 (F.agL b) G (d::st.pre) (some b) nv,?_⟩;rw [Af.h_];refine(aiA.less aid).afV ?_;grind [DV.toV,DC.toC,Ab]
end Go.PL
set_option linter.all false
namespace Go.PL
open Go Go.RowKit
variable {T:Bo}
def prI (acc:List (List Nat)) (d:List Nat) (i:Nat):List Nat:=(List.range i).filter fun j=>Ke d j||d.any fun k=>Ke (acc.getD k []) j
def Ahz (ops:Array Oper):Nat->Nat->List (List Nat)->List (List Nat)
 | 0,_,acc=>acc
 | n+1,i,acc=>Ahz ops n (i+1) (acc++[prI acc (mT ops i) i])
def AhA (ops:Array Oper):List (List Nat):=Ahz ops ops.size 0 []
def S2 (ops:Array Oper) (v:List Bool) (i:Nat):Bool:= !bv v i&&(mT ops i).all (bv v)
theorem nX {ops:Array Oper} {v:List Bool} (hv:v.length=ops.size):Region.ready .any ops v.toArray=(List.range ops.size).filter (S2 ops v):=by
 unfold Region.ready;refine List.filter_congr fun i hi=>?_;have hi:i<ops.size:=by grind
 have ho:ops[i]? =some ops[i]:=(by grind);unfold S2 mT;rw [ho];have e1:v.toArray.getD i true=bv v i:=by simp_all [bv]
 rw [e1];congr 1;simp only [map_some,Option.getD_some];rw [Bool.eq_iff_iff];simp only [Array.all_eq_true_iff_forall_mem,or_eq_true,not_eq_true',all_eq_true,mem_map,mem_filter,forall_exists_index,and_imp,forall_apply_eq_imp_iff₂];constructor
 ·intro h x e he hb hx;subst hx;have:=h e (by simpa using he);simp_all [bv]
 ·intro h e he;cases hb:Region.binds .any e
  ·grind
  ·right;have:=h e.on e (by simpa using he) hb rfl;simp_all [bv]
def Aea (ops:Array Oper) (v:List Bool):Option Nat:=(List.range ops.size).find? fun i=>S2 ops v i&& !Nat.beq (O6 ops i) 0
def rJ (ops:Array Oper) (i:Nat):Bool:=match ops[i]? with
 | some o=>zj o
 | none=>false
def zk (ops:Array Oper) (v:List Bool):Option Nat:=match (List.range ops.size).filter fun i=>S2 ops v i&& !rJ ops i with
 | [i]=>some i
 | []=>(List.range ops.size).find? fun i=>S2 ops v i&&rJ ops i
 | _=>none
def AfJ (ops:Array Oper) (pr:List (List Nat)) (v:List Bool) (i:Nat):Bool:=(List.range ops.size).all fun k=>bv v k||(Nat.beq k i||(rJ ops k||(pr.getD k []).any fun j=> !bv v j&&(!rJ ops j||Nat.beq j i)))
def isU:DV T->Bool
 | .u =>true
 | _=>false
def unM (ops:Array Oper) (v:List Bool) (st:Af T):Bool:=(List.range ops.size).all fun k=>bv v k||match ops[k]? with
 | some o=> !zj o||match o.dst with
   | some d=>isU (st.get d)&&Nat.blt d st.m
   | none=>false
 | none=>true
def aT (ops:Array Oper):Bool:=(List.range ops.size).all fun i=>(List.range ops.size).all fun j=>Nat.beq i j||match ops[i]?,ops[j]? with
 | some o,some o'=>match o.dst,o'.dst with
   | some d,some e=> !Nat.beq d e
   | _,_=>true
 | _,_=>true
def aU (P:Program) (ops:Array Oper) (st:Af T):Bool:=ops.toList.all fun o=> !zj o||(mkX P st o).isSome
def wJ:List Oper->Af T->Af T
 | [],st=>st
 | o::r,st=>match zj o with
   | true=>wJ r (st.put o.dst .u)
   | false=>wJ r st
def zl (ops:Array Oper) (pr:List (List Nat)) (v:List Bool) (p:Nat):Bool:=(List.range ops.size).any fun k=>bv v k&&(Nat.beq (O6 ops k) 0&&Ke (pr.getD k []) p)
def aV (ops:Array Oper) (pr:List (List Nat)) (v:List Bool) (pd:List QG) (st:Af T):Bool:=
 (List.range ops.size).all fun p=> !bv v p||(!Nat.beq (O6 ops p) 1||(zl ops pr v p||pd.any fun q=>Nat.beq q.i p&&wH st q))
def Xn (ops:Array Oper) (pr:List (List Nat)) (lz:List Nat) (v:List Bool) (pd:List QG) (st:Af T):Bool:=
 lz.all fun p=> !bv v p||(zl ops pr v p||pd.any fun q=>Nat.beq q.i p&&wH st q)
def isN:HA->Bool
 | .n =>true
 | _=>false
def zm (o:Oper):Bool:=match o.op,o.guard,o.dst with
 | .buildSlice ..,none,some _=>true
 | _,_,_=>false
def zn (o:Oper) (st:Af T):Bool:=match o.dst with
 | some d=>Nat.blt d st.m
 | none=>false
def AhB (o:Oper):Bool:=match o.op with
 | .load .. =>true
 | _=>false
def AhC:HA->Option Bool
 | .q (.sub md)=>some md
 | _=>none
def AhD (P:Program) (st:Af T) (o:Oper):HA->Bool
 | .q .dlx =>true
 | .q .au =>auL P st o
 | _=>false
def opR {P:Program} {I:World->Prop} (Γ:List (CE T P I)) (rec:wE T) (ops:Array Oper) (o:Oper) (st:Af T) (h:HA) (R:Type) (K:Af T->Option R):Option R:=match h with
 | .n =>dop Γ ops o st R K
 | .q sp=>Acg Γ ops o st sp R K
 | .c h=>rI P rec o h st R K
 | .j sh h=>jn (fun v:RT T sh.ts=>match sh.inst st (CC sh.ts v)with
  | some s=>K s
  | none=>none) (fun j=>rI P rec o h st R fun b=>match sh.gen st b with
  | some v=>j v
  | none=>none)
 | .u .. =>none
def Mq {P:Program} {I:World->Prop} (Γ:List (CE T P I)) (rec:wE T) (ops:Array Oper) (pr:List (List Nat)) (lz:List Nat) (il:Hl):Nat->List Bool->List QG->Af T->(R:Type)->(Af T->Option R)->Option R
 | 0,v,pd,st,R,K=>match Xn ops pr lz v pd st with
   | false=>none
   | true=>match (List.range ops.size).all (bv v)with
     | true=>Vv il ops.size st R K
     | false=>none
 | n+1,v,pd,st,R,K=>match Xn ops pr lz v pd st with
   | false=>none
   | true=>match Aea ops v with
     | some i=>match ops[i]? with
       | some o=>match Nat.beq (DO o) 2,zn o st with
         | true,true=>Mf P [] st o.op R fun u=>Mq Γ rec ops pr lz il n (v.set i true) pd (st.put o.dst u) R K
         | false,true=>match AhC (Mp il i),AhD P st o (Mp il i),AhB o with
           | some md,_,_=>Ab2 P o md st R fun an=>Mq Γ rec ops pr lz il n (v.set i true) pd an R K
           | none,true,_=>dlx P o st R fun an=>Mq Γ rec ops pr lz il n (v.set i true) pd an R K
           | none,false,false=>none
           | none,false,true=>match AfH P (Ke lz i) o i st with
             | some (an,q)=>Mq Γ rec ops pr lz il n (v.set i true) (q::pd) an R K
             | none=>Mf P [] st o.op R fun u=>Mq Γ rec ops pr lz il n (v.set i true) pd (st.put o.dst u) R K
         | _,_=>none
       | none=>none
     | none=>match zk ops v with
       | some i=>match ops[i]?,AfJ ops pr v i&&unM ops v st with
         | some o,true=>match DO o,zj o with
           | 0,true=>match o.dst,mkX P st o with
             | some d,some x=>match st.new (d::st.pre) x with
               | some s=>Mq Γ rec ops pr lz il n (v.set i true) pd (s.put (some d) (.c (.c (aS x (d::st.pre))))) R K
               | none=>none
             | _,_=>none
           | 0,false=>match zm o&&isN (Mp il i)with
             | true=>vV P st o R fun an=>Mq Γ rec ops pr lz il n (v.set i true) pd an R K
             | false=>opR Γ rec ops o st (Mp il i) R fun an=>match aV ops pr (v.set i true) pd an with
               | true=>Mq Γ rec ops pr lz il n (v.set i true) pd an R K
               | false=>none
           | _,_=>none
         | _,_=>none
       | none=>none
theorem zo {α:Type} {p:α->Bool} {l:List α} {x:α} (h:l.find? p=some x):x∈l/\p x=true:=(by grind)
theorem GF (v:List Bool) (k:Nat):v.toArray.getD k false=bv v k:=by simp_all [bv]
theorem Di {v:List Bool} {i k:Nat} (hi:i<v.length):bv (v.set i true) k=(k==i||bv v k):=by simp only [bv,List.getD_eq_getElem?_getD,getElem?_set];grind
theorem Pg {o:Oper} (h:zj o=true):o.guard=none/\(∃ d,o.dst=some d)/\DO o=0:=by grind [zj,DO,O5]
theorem Ll.take {F0 F:Fr} {D:List (Nat×Nat)} {st:St} {a:Act} {w w1:World} {G:AG} (t:Ll F0 F D) (h:R F st a w G) (ho:OL w w1) (hs:C1 w w1) (i:Nat):Ll F0 (F.take w1 w.heap.size G) ((i,w.heap.size)::D):=by
 have h1:=le_trans t.size h.u_;refine⟨t.amM,t.gv,fun x=>?_,le_trans h1 hs.size,fun x hx hx2=>?_,fun x ⟨j,hj⟩=>?_,fun p hp=>?_,ho.os.trans (h.os.trans t.os),ho.tape.trans (h.tape.trans t.tape),ho.output.trans (h.output.trans t.output)⟩
 ·show F.av x\/x=w.heap.size↔_;rw [t.av];grind
 ·obtain⟨k1,k2⟩:=t.kept x hx hx2;refine⟨fun⟨j,hj⟩=>?_,?_⟩
  ·rcases h.new j x hj with q | q
   all_goals grind
  ·show w1.heap[x]? =_;rw [hs.block x (by omega),h.ext x (by grind) k1,k2]
 ·rcases h.new j x hj with q | q
  ·exact .inl (le_trans t.size q)
  ·exact t.old x q
 ·rcases mem_cons.1 hp with rfl | hp
  ·exact h1
  ·exact t.new p hp
theorem jZ {α β:Type} {f:α->β}: ∀ {l:List α} {x y:α},(l.map f).Nodup ->x∈l->y∈l->f x=f y->x=y
 | a::l,x,y,h,hx,hy,e=>by
   rw [map_cons]at h;obtain⟨h1,h2⟩:=nodup_cons.1 h;rcases mem_cons.1 hx with q1 | q1<;>rcases mem_cons.1 hy with q2 | q2
   ·rw [q1,q2]
   ·subst q1;exact absurd (mem_map.2 ⟨y,q2,e.symm⟩) h1
   ·subst q2;exact absurd (mem_map.2 ⟨x,q1,e⟩) h1
   ·exact jZ h2 q1 q2 e
theorem Ll.agL {F0 F:Fr} {D:List (Nat×Nat)} {i b:Nat} (t:Ll F0 F D) (hi:(i,b)∈D) (n1:(D.map (·.1)).Nodup) (n2:(D.map (·.2)).Nodup) (hl: ∀ x,F0.av x->x<F0.w0.heap.size):Ll F0 (F.agL b) (D.filter fun p=>p.1 != i):=by
 have hb:=t.new _ hi;simp only at hb;refine⟨t.amM,t.gv,fun x=>?_,t.size,fun x hx hx2=>?_,fun x hx=>?_,fun p hp=>t.new p (by grind),t.os,t.tape,t.output⟩
 ·show F.av x/\x ≠ b↔_;rw [t.av];constructor
  ·rintro⟨q | ⟨j,q⟩,Tj⟩
   ·exact .inl q
   ·refine .inr ⟨j,mem_filter.2 ⟨q,?_⟩⟩;have:j ≠ i:=fun e=>by subst e;have:=jZ n1 q hi rfl;grind
    grind
  ·rintro(q | ⟨j,q⟩)
   ·grind
   ·obtain⟨q1,q2⟩:=mem_filter.1 q;refine⟨.inr ⟨j,q1⟩,fun e=>?_⟩;subst e;have:=jZ n2 q1 hi rfl;grind
 ·obtain⟨k1,k2⟩:=t.kept x hx hx2;refine⟨fun q=>?_,k2⟩;rcases q with q | q
  all_goals grind
 ·rcases hx with q | q
  ·exact t.old x q
  grind
def zq (P:Program) (ops:Array Oper) (st:Af T) (F:Fr) (a:Act) (p:Nat×Nat):Prop:=
 ∃ o d x arr Tt,ops[p.1]? =some o/\zj o=true/\o.dst=some d/\mkX P st o=some x/\AfI x arr Tt/\F.w0.heap[p.2]? =some (.cells arr Tt (0,0))/\ ¬F.old p.2/\a.tmps.getD d Go.undef=jY x p.2
theorem zq.move {P:Program} {ops:Array Oper} {st an:Af T} {F:Fr} {a a':Act} {p:Nat×Nat} (h:zq P ops st F a p) (ha: ∀ d o,ops[p.1]? =some o->o.dst=some d->a'.tmps.getD d Go.undef=a.tmps.getD d Go.undef):zq P ops an F a' p:=by obtain⟨o,d,x,arr,Tt,h1,h2,h3,h4,h5,h6,h7,h8⟩:=h;exact⟨o,d,x,arr,Tt,h1,h2,h3,by rw [Vy h2 (an:=st)];exact h4,h5,h6,h7,by rw [ha d o h1 h3];exact h8⟩
theorem AhE {P:Program} {ops:Array Oper} {st:Af T} {F:Fr} {a:Act} {p:Nat×Nat} (h:zq P ops st F a p) {o:Oper} (ho:ops[p.1]? =some o):DO o=0:=by obtain⟨o',_,_,_,_,h1,h2,_⟩:=h;simp_all [Pg]
theorem HB {ops:Array Oper} (h:aT ops=true) {i j:Nat} {o o':Oper} {d e:Nat} (hi:ops[i]? =some o) (hj:ops[j]? =some o') (Tj:i ≠ j) (hd:o.dst=some d) (he:o'.dst=some e):d ≠ e:=by
 simp only [aT,all_eq_true,mem_range]at h;have:=h i (Array.getElem?_eq_some_iff.1 hi).1 j (Array.getElem?_eq_some_iff.1 hj).1;simp only [hi,hj,hd,he,or_eq_true,beq_eq,not_eq_true']at this;rcases this with q | q
 ·grind
 ·intro e';simp_all
def unv (n:Nat) (v:List Bool):List Nat:=(List.range n).filter fun k=> !bv v k
theorem zs: ∀ {l l':List Nat},l.Nodup->(∀ x∈l,x∈l')->l.length<=l'.length
 | [],_,_,_=>Nat.zero_le _
 | a::l,l',h,hs=>by obtain⟨h1,h2⟩:=nodup_cons.1 h;have ha:=hs a (by simp);have:=zs (l:=l) (l':=l'.erase a) h2 (by grind);grind
theorem AfK (n:Nat) (v:List Bool):(unv n v).Nodup :=List.Sublist.nodup filter_sublist List.nodup_range
theorem YG {n:Nat} {v:List Bool} {i:Nat} (hv:v.length=n) (hi:i<n) (hu:bv v i=false):(unv n (v.set i true)).length +1<=(unv n v).length :=by
 have:=zs (l:=i::unv n (v.set i true)) (l':=unv n v) (nodup_cons.2 ⟨fun h=>?_,AfK _ _⟩) fun x hx=>?_
 ·grind
 ·have:=(mem_filter.1 h).2;grind [Di]
 ·rcases mem_cons.1 hx with rfl | hx
  ·exact mem_filter.2 ⟨by simpa using hi,by rw [hu];rfl⟩
  ·obtain⟨h1,h2⟩:=mem_filter.1 hx;rw [Di (by omega)]at h2;exact mem_filter.2 ⟨h1,by simp only [not_eq_true',or_eq_false_iff]at h2 ⊢;exact h2.2⟩
section
variable {H:As T} {P:Program} {I:World->Prop} {Γ:List (CE T P I)} {rec:wE T} {st:Af T} {ops:Array Oper} {pr:List (List Nat)} {lz:List Nat} {F0:Fr}
theorem AfL (abM:nU P I rec) (hw:AH H st) {o:Oper} {h:HA} {R':Type} {K:Af T->Option R'} {r:R'} (hr:opR Γ rec ops o st h R' K=some r) {PK:St->Prop}
 (hK: ∀ H' an,Nx H st H' an->K an=some r->PK an.toSt):fB P I ops o st.toSt (fun s=> ∃ s',Wk s s'/\PK s'):=by
 have refl: ∀ s:St,Wk s s:=fun s=>Wk.less (Cp.refl s);unfold opR at hr;split at hr
 ·obtain⟨an,⟨⟨H1,n1⟩,_,w1⟩,hr⟩:=jF hw o R' _ r hr;grind
 ·obtain⟨an,⟨⟨H1,n1⟩,_,w1⟩,hr⟩:=ui hw o _ R' _ r hr;grind
 ·obtain⟨g1,g2⟩:=SZ (PK:=fun s=> ∃ s',Wk s s'/\PK s') abM hw hr fun H' s n _ q=>⟨_,refl _,hK H' s n q⟩;simp only [fB,g1];exact .inl g2
 ·rename_i sh h;unfold jn at hr;obtain⟨g1,g2⟩:=SZ (PK:=fun s=> ∃ s',Wk s s'/\PK s') abM hw hr fun H' s n _ q=>by
   split at q
   ·rename_i v hg;dsimp only at q;split at q
    ·rename_i s' hi;obtain⟨H2,n2⟩:=Iq.afs hw (Ex sh.ts v) hi;grind [Iq.ae1]
    ·cases q
   ·cases q
  simp only [fB,g1];exact .inl g2
 ·cases hr
theorem AhF {o:Oper} (hb:zm o=true) {s:St} (h1:(ef P st.toSt o).1) (h2:Cp (ef P st.toSt o).2 s) {F:Fr} {a:Act} {w:World} {G:AG} (hR:R F st.toSt a w G) {Q:Exit->Act->World->Prop}:
 o.wp P a w (fun a' w'=>C1 w w'/\ ∃ G',R F s a' w' G') Q:=by
 unfold zm at hb;split at hb
 ·rename_i t len ps d hop hg hd;obtain⟨dst,op,ty,pos,aft,gd⟩:=o;simp only at hop hg hd;subst hop hg hd;have h1':(Bh P st.toSt d t len ps.toList).1:=h1;have h2':Cp (Bh P st.toSt d t len ps.toList).2 s:=h2;obtain⟨r,w',G',q1,q2⟩:=K8 hR h1';have:=Vf hR h1' q1;unfold Oper.wp;have q_:(execOp a.eval ⟨some d, .buildSlice t len ps,ty,pos,aft,none⟩).run P w= .ok (.value r) w':=by simp [execOp,q1]
  rw [q_];exact⟨this,G',q2.less h2'⟩
 ·cases hb
structure Fy (P:Program) (ops:Array Oper) (pr:List (List Nat)) (F0:Fr) (v:List Bool) (st:Af T) (m:Nat) (L:List Bool) (D:List (Nat×Nat)) (F:Fr) (a:Act) (w:World) (G:AG):Prop where
 hv:v.length=ops.size
 hL:L.length=ops.size
 hb: ∀ k,bv L k=(bv v k||D.any fun p=>p.1==k)
 hdc:yB pr L.toArray
 n1:(D.map (·.1)).Nodup
 n2:(D.map (·.2)).Nodup
 hD: ∀ p∈D,p.1<ops.size/\bv v p.1=false/\zq P ops st F a p
 ht:Ll F0 F D
 hc:(unv ops.size v).length <=m+D.length
 hR:R F st.toSt a w G
structure Fx (P:Program) (ops:Array Oper) (pr:List (List Nat)) (lz:List Nat) (F0:Fr) (v:List Bool) (st:Af T) (m:Nat) (L:List Bool) (D:List (Nat×Nat)) (F:Fr) (a:Act) (w:World) (G:AG):Prop extends Fy P ops pr F0 v st m L D F a w G where
 hS:db P ops pr lz L.toArray a w
variable {v L:List Bool} {m:Nat} {D:List (Nat×Nat)} {F:Fr} {a:Act} {w:World} {G:AG}
theorem Qe {D:List (Nat×Nat)} {k:Nat}:(D.any fun p=>p.1==k)=true↔ ∃ b,(k,b)∈D:=by grind
theorem Fx.pos (h:Fx P ops pr lz F0 v st m L D F a w G) {i:Nat} (hi:i<ops.size) (hu:bv v i=false) (hn: ∀ b,(i,b)∉D):1<=m:=by
 have:=zs (l:=i::D.map (·.1)) (l':=unv ops.size v) (nodup_cons.2 ⟨fun q=>?_,h.n1⟩) fun x hx=>?_
 ·have h2:=h.hc;grind
 ·grind
 ·rcases mem_cons.1 hx with rfl | hx
  ·exact mem_filter.2 ⟨by simpa using hi,by rw [hu];rfl⟩
  ·obtain⟨p,hp,rfl⟩:=mem_map.1 hx;obtain⟨h1,h2,_⟩:=h.hD p hp;exact mem_filter.2 ⟨by simpa using h1,by rw [h2];rfl⟩
theorem Fx.rdy (h:Fx P ops pr lz F0 v st m L D F a w G) {i:Nat} (hi:i<ops.size) (hr:S2 ops v i=true) (hn: ∀ b,(i,b)∉D):i∈Region.ready .any ops L.toArray:=by rw [nX h.hL];simp only [S2,and_eq_true,not_eq_true',all_eq_true]at hr;refine mem_filter.2 ⟨by grind,?_⟩;simp only [S2,and_eq_true,not_eq_true',all_eq_true];refine⟨?_,fun x hx=>by rw [h.hb,hr.2 x hx];rfl⟩;rw [h.hb,hr.1,Bool.false_or];grind
theorem Fx.agy (hp:jt ops pr=true) (h:Fx P ops pr lz F0 v st m L D F a w G) {j:Nat} (hj:j∈Region.ready .any ops L.toArray):j<ops.size/\bv L j=false/\bv v j=false/\(∀ b,(j,b)∉D)/\ ∀ x∈pr.getD j [],bv L x=true:=by
 obtain⟨h1,h2,h3⟩:=Gd hp h.hdc hj;have h4:bv L j=false:=by grind [GF]
 have h5:=h4;rw [h.hb,or_eq_false_iff]at h5;refine⟨h1,h4,h5.1,fun b hb=>?_,fun x hx=>by rw [<-GF];exact h3 x hx⟩;have:=Qe.2 ⟨b,hb⟩;rw [h5.2]at this;cases this
theorem R.anx {st:St} (h:R F st a w G) {d:Nat} {u:Value} (hu:Ab w G (st.tm.getD d .undef) u):R F st (a.put (some d) u) w G:=by
 have:=h.put (d:=some d) hu;have e:st.put (some d) (st.tm.getD d .undef)=st:=by simp only [St.put];congr 1;apply List.ext_getElem?;grind
 grind
theorem Fy.up1 (hst:Ve ops pr=true) (hdn:aT ops=true) (hlz:QE ops lz=true) (hw:AH H st) {pd:List QG} (hpd: ∀ q∈pd,XQ P ops lz H st.nx q) (hck:Xn ops pr lz v pd st=true) (h:Fy P ops pr F0 v st m L D F a w G) {a':Act} (hu:Up1 P ops pr lz L.toArray w a a'):Fy P ops pr F0 v st m L D F a' w G:=by
 obtain⟨p,o,d,u,h1,h2,h3,h4,h5,h6,rfl⟩:=hu;obtain⟨k1,k2⟩:=JD hlz h1 h2;have hcN:O6 ops p=1:=by grind [O6]
 have nmk: ∀ q,(p,q)∉D:=fun q hq=>by obtain⟨_,_,o',_,_,_,_,r1,r2,_⟩:=h.hD _ hq;simp_all [Pg]
 have hvp:bv v p=true:=by rw [GF,h.hb,or_eq_true]at h4;grind
 simp only [Xn,all_eq_true,or_eq_true,not_eq_true']at hck;rcases hck p h1 with q | q | q
 ·grind
 ·exfalso;refine h5 ?_;simp only [zl,any_eq_true,mem_range,and_eq_true,beq_eq,Fq]at q;obtain⟨k,_,k1,k2,k3⟩:=q;exact⟨k,by rw [GF,h.hb,k1];rfl,k2,k3⟩
 ·simp only [any_eq_true,and_eq_true,beq_eq]at q;obtain⟨q0,hq0,e0,hok⟩:=q;subst e0;obtain⟨r1,x,_,r2,r3⟩:=YF hw (hpd q0 hq0) hok h2 h.hR;rw [h3]at r1;injection r1 with r1;subst r1;rw [r3 w (C1.refl w)]at h6;have hxu:x=u:=by grind
  subst hxu;exact {h with
   hD:=fun p' hp'=>by obtain⟨s1,s2,s3⟩:=h.hD p' hp';have Tj:p'.1 ≠ q0.i:=(by grind);refine⟨s1,s2,s3.move fun d' o' ho' hd'=>?_⟩;exact Et (by grind)
   hR:=h.hR.anx r2}
theorem Fx.ups (hst:Ve ops pr=true) (hdn:aT ops=true) (hlz:QE ops lz=true) (hw:AH H st) {pd:List QG} (hpd: ∀ q∈pd,XQ P ops lz H st.nx q) (hck:Xn ops pr lz v pd st=true) (h:Fx P ops pr lz F0 v st m L D F a w G) {a':Act} (hu:Ups P ops pr lz L.toArray w a a'):Fx P ops pr lz F0 v st m L D F a' w G:=by
 induction hu with
 | refl=>exact h
 | step _ h1 ih=>exact {toFy:=ih.toFy.up1 hst hdn hlz hw hpd hck h1,hS:=ih.hS.up1 hst hlz h1}
theorem aW {il:Hl} {pd:List QG} {R':Type} {K:Af T->Option R'} {r:R'}: ∀ {n:Nat},Mq Γ rec ops pr lz il n v pd st R' K=some r->Xn ops pr lz v pd st=true
 | 0,h=>by grind [Mq]
 | n+1,h=>by grind [Mq]
theorem B5 (L:List Bool) (i:Nat):L.toArray.setIfInBounds i true=(L.set i true).toArray :=by simp
theorem Fx.make (hst:Ve ops pr=true) (hdn:aT ops=true) (hlz:QE ops lz=true) {pd:List QG} (hpd: ∀ q∈pd,XQ P ops lz H st.nx q) (hck:Xn ops pr lz v pd st=true) (hi0:zg F0) (hw:AH H st) (hma:aU P ops st=true) (hun:unM ops v st=true) (h:Fx P ops pr lz F0 v st (m+1) L D F a w G) {j:Nat} (hj:j∈Region.ready .any ops L.toArray) (hm:rJ ops j=true) {Q:Exit->Act->World->Prop}
 (hK: ∀ L D F a w' G,Fx P ops pr lz F0 v st m L D F a w' G->(j,w.heap.size)∈D->D7 P ops Q pr lz m L.toArray a w'):
 wpOp P ops Q j (fun a' w'=> ∀ a'',Ups P ops pr lz (L.toArray.setIfInBounds j true) w' a' a''->db P ops pr lz (L.toArray.setIfInBounds j true) a'' w'/\D7 P ops Q pr lz m (L.toArray.setIfInBounds j true) a'' w') a w:=by
 obtain⟨hns,hp,aeX⟩:=Hv hst;obtain⟨hjl,hju,hjv,hjD,_⟩:=h.agy hp hj;unfold rJ at hm;have hoj:ops[j]? =some ops[j]:=(by grind);generalize ops[j]=o at hoj;rw [hoj]at hm;simp only at hm;obtain⟨hg,⟨d,hd⟩,hc⟩:=Pg hm;obtain⟨x,hx⟩: ∃ x,mkX P st o=some x:=by simp only [aU,all_eq_true,or_eq_true,not_eq_true']at hma;grind [Option.isSome_iff_exists]
 have hud:st.get d= .u /\d<st.m:=by simp only [unM,all_eq_true,mem_range,or_eq_true]at hun;have:=hun j hjl;rw [hjv,hoj]at this;simp only [hm,hd,Bool.not_true,Bool.false_or,and_eq_true,blt_eq]at this;grind [isU]
 obtain⟨arr,Tt,q_,hxo⟩:=Acj hw hx h.hR;have hsz:a.tmps.size=st.m:=by rw [h.hR.size];exact BB _ _
 refine rn hst hlz hoj hc h.hdc hj h.hS (K:=fun a' w'=>C1 w w'/\ ∃ D' F' G',Fy P ops pr F0 v st m (L.set j true) D' F' a' w' G'/\(j,w.heap.size)∈D') ?_ ?_ ?_ ?_
 ·rw [F7 hg,if_pos rfl];refine AJ q_ ?_;rw [hd];refine⟨JW _ _,?_⟩;have hsm:=JW w (.cells arr Tt);have t':=h.ht.take h.hR (K5 w (.cells arr Tt)) hsm j;obtain⟨G1,hR1⟩:=h.hR.taken (K5 w (.cells arr Tt)) hsm (b:=w.heap.size) rfl (by simp [JV]) (t'.auC hi0 fun x hx hx2=>(t'.kept x hx hx2).1) (d:=d) (v:=jY x w.heap.size) (by rw [st.aa_,hud.1];simp only [DV.toV]);refine⟨(j,w.heap.size)::D,_,G1,⟨h.hv,by simpa using h.hL,fun k=>?_,by rw [<-B5];exact h.hdc.set hp hj,?_,?_,fun p hp'=>?_,t',?_,hR1⟩,List.mem_cons_self⟩
  ·rw [Di (by rw [h.hL];exact hjl),h.hb,List.any_cons];grind
  ·rw [map_cons];refine nodup_cons.2 ⟨fun q=>?_,h.n1⟩;grind
  ·rw [map_cons];refine nodup_cons.2 ⟨fun q=>?_,h.n2⟩;obtain⟨p,hp',e⟩:=mem_map.1 q;have e:p.2=w.heap.size:=e;have hav:F.av p.2:=(h.ht.av _).2 (.inr ⟨p.1,hp'⟩);have:=h.hR.aaS _ hav;have:=h.hR.u_;omega
  ·rcases mem_cons.1 hp' with rfl | hp'
   ·refine⟨hjl,hjv,o,d,x,arr,Tt,hoj,hm,hd,hx,hxo,heap_alloc_new w _,fun⟨i,hi⟩=>?_,?_⟩
    ·have:=h.hR.lt i _ hi;omega
    simp_all [Act.put]
   ·obtain⟨q1,q2,o',d',x',abh,Tt',r1,r2,r3,r4,r5,r6,r7,r8⟩:=h.hD p hp';have hav:F.av p.2:=(h.ht.av _).2 (.inr ⟨p.1,hp'⟩);refine⟨q1,q2,o',d',x',abh,Tt',r1,r2,r3,r4,r5,?_,fun⟨i,hi⟩=>h.hR.unnamed hav i hi,?_⟩
    ·show (w.alloc (.cells arr Tt)).heap[p.2]? =_;have hlt:=h.hR.aaS _ hav;rw [hsm.block p.2 (lt_of_lt_of_le hlt h.hR.u_),h.hR.ext p.2 hlt r7];exact r6
    ·have Tj:p.1 ≠ j:=(by grind);rw [<-r8];exact Et (x:=some d) (fun e he=>by injection he with he;subst he;exact HB hdn hoj r1 (Ne.symm Tj) hd r3)
  ·have:=h.hc;grind
 ·intro a' w' ⟨hsm,_⟩ p op hop hcp hpl hpf he1 he2 hW d hd;obtain⟨u,m1,m2⟩:=hW d hd;refine⟨u,by grind,fun w1 hw1=>?_⟩;have h1:=hw1.resolve_left (by rw [hcp];omega);rw [he1 w1 (hsm.trans h1)];exact m2 w1 (.inr (hsm.trans h1))
 ·intro a' w' a'' ⟨hsm,D',F',G',hf,hj'⟩ hu;rw [B5]at hu;exact⟨hsm,D',F',G',hf.up1 hst hdn hlz hw hpd hck hu,hj'⟩
 ·intro a' w' ⟨hsm,D',F',G',hf,hj'⟩ _ hS';rw [B5]at hS' ⊢;exact hK _ D' F' a' w' G' {toFy:=hf,hS:=hS'} hj'
theorem Fx.avW (hi0:zg F0) (hl0: ∀ x,F0.av x->x<F0.w0.heap.size) (hw:AH H st) (h:Fx P ops pr lz F0 v st m L D F a w G) {i b d:Nat} {o:Oper} {x:DX T} {s:Af T} (hi:(i,b)∈D) (ho:ops[i]? =some o) (hd:o.dst=some d) (hx:mkX P st o=some x) (hs:st.new (d::st.pre) x=some s):
 ∃ G',Fx P ops pr lz F0 (v.set i true) (s.put (some d) (.c (.c (aS x (d::st.pre))))) m L (D.filter fun p=>p.1 != i) (F.agL b) a w G':=by
 obtain⟨hil,hiv,o',d',x',arr,Tt,r1,r2,r3,r4,r5,r6,r7,r8⟩:=h.hD _ hi;simp only at hil hiv r1 r6 r7 r8;rw [ho]at r1;injection r1 with r1;subst r1;rw [hd]at r3;injection r3 with r3;subst r3;rw [hx]at r4;injection r4 with r4;subst r4;have t':=h.ht.agL hi h.n1 h.n2 hl0;have hav:F.av b:=(h.ht.av _).2 (.inr ⟨i,hi⟩);have hh:w.heap[b]? =some (.cells arr Tt (0,0)):=by rw [h.hR.ext b (h.hR.aaS b hav) r7];exact r6
 obtain⟨G',hR'⟩:=wI hw r5 h.hR hav (t'.auC hi0 fun x hx hx2=>(t'.kept x hx hx2).1) hh r8 hs;refine⟨G',⟨by simpa using h.hv,h.hL,fun k=>?_,h.hdc,List.Sublist.nodup (by grind [filter_sublist]) h.n1,List.Sublist.nodup (by grind [filter_sublist]) h.n2,fun p hp=>?_,t',?_,hR'⟩,h.hS⟩
 ·rw [h.hb,Di (by rw [h.hv];exact hil)];by_cases hk:k=i
  ·grind
  ·have e1:(k==i)=false:=by grind
   rw [e1,Bool.false_or];congr 1;rw [Bool.eq_iff_iff,Qe,Qe];grind
 ·obtain⟨hp1,hp2⟩:=mem_filter.1 hp;have Tj:p.1 ≠ i:=by grind
  obtain⟨q1,q2,o',d',x',abh,Tt',s1,s2,s3,s4,s5,s6,s7,s8⟩:=h.hD p hp1;refine⟨q1,by rw [Di (by rw [h.hv];exact hil),q2];grind,o',d',x',abh,Tt',s1,s2,s3,by grind [Vy],s5,s6,fun q=>?_,s8⟩;rcases q with q | q
  ·exact s7 q
  ·have:p=(i,b):=jZ h.n2 hp1 hi q;grind
 ·have h1:=YG h.hv hil hiv;have h2:=h.hc;have h3:(D.filter fun p=>p.1 != i).length +1=D.length:=by
   have key: ∀ l:List (Nat×Nat),(l.map (·.1)).Nodup ->(i,b)∈l->(l.filter fun p=>p.1 != i).length +1=l.length:=by
    intro l;induction l with
    | nil=>grind
    | cons p l ih=>
      intro hn hm;rw [map_cons]at hn;obtain⟨n1,n2⟩:=nodup_cons.1 hn;rcases mem_cons.1 hm with e | hm
      ·grind [List.filter_eq_self]
      grind
   exact key D h.n1 hi
  omega
theorem rK {v:List Bool} {i:Nat} (h:zk ops v=some i):i<ops.size/\S2 ops v i=true:=by
 unfold zk at h;split at h
 ·rename_i j hj;injection h with h;subst h;have:j∈(List.range ops.size).filter fun i=>S2 ops v i&& !rJ ops i:=by grind
  grind
 all_goals grind
theorem rL {v:List Bool} {i:Nat} (h:Aea ops v=some i):i<ops.size/\S2 ops v i=true/\O6 ops i ≠ 0:=by obtain⟨h1,h2⟩:=zo h;simp only [and_eq_true,not_eq_true']at h2;exact⟨by grind,h2.1,fun e=>by simp_all⟩
theorem uk {v:List Bool} {i:Nat} (h:S2 ops v i=true):bv v i=false:=by simp_all [S2]
theorem ul {i:Nat} (h:rJ ops i=true):O6 ops i=0:=by
 unfold rJ at h;split at h
 all_goals simp_all [O6,Pg]
theorem Iu {P:Program} {st an:Af T} (h:aU P ops st=true):aU P ops an=true:=by
 simp only [aU,all_eq_true,or_eq_true,not_eq_true']at h ⊢;intro o ho;rcases h o ho with q | q
 ·exact .inl q
 ·cases hm:zj o with
  | false=>grind
  | true=>grind [Vy]
theorem Fx.other (hp:jt ops pr=true) (h:Fx P ops pr lz F0 v st m L D F a w G) {i:Nat} (hok:AfJ ops pr v i=true) (hiD: ∀ b,(i,b)∉D) {j:Nat} (hj:j∈Region.ready .any ops L.toArray) (Tj:j ≠ i):rJ ops j=true:=by
 obtain⟨h1,h2,h3,h4,h5⟩:=h.agy hp hj;simp only [AfJ,all_eq_true,mem_range,or_eq_true,beq_eq,any_eq_true,and_eq_true,not_eq_true']at hok;rcases hok j h1 with q | q | q | ⟨x,hx,q1,q2⟩
 ·grind
 ·grind
 ·exact q
 ·exfalso;have:=h5 x hx;rw [h.hb,q1,Bool.false_or]at this;obtain⟨b,hb⟩:=Qe.1 this;rcases q2 with q2 | q2
  ·obtain⟨_,_,o,d,y,arr,Tt,r1,r2,_⟩:=h.hD _ hb;grind [rJ]
  grind
theorem S3 (hst:Ve ops pr=true) (hdn:aT ops=true) (hlz:QE ops lz=true) (abM:nU P I rec) (il:Hl) (hI0:F0.I=I) (hi0:zg F0) (hd0: ∀ x,F0.old x-> ¬F0.av x) (hl0: ∀ x,F0.av x->x<F0.w0.heap.size) {R':Type} {K:Af T->Option R'} {r:R'} {PK:St->Prop}:
 ∀ (n:Nat) (v:List Bool) (pd:List QG) (st:Af T) (H:As T),AH H st->(∀ q∈pd,XQ P ops lz H st.nx q)->aU P ops st=true->Mq Γ rec ops pr lz il n v pd st R' K=some r->(∀ H' an,Nx H st H' an->K an=some r->PK an.toSt)->
 ∀ (m:Nat) (L:List Bool) (D:List (Nat×Nat)) (F:Fr) (a:Act) (w:World) (G:AG),Fx P ops pr lz F0 v st m L D F a w G->D7 P ops (fun e a' w'=>e= .normal /\ ∃ s G',PK s/\R F0 s a' w' G') pr lz m L.toArray a w
 | 0,v,pd,st,H,hw,hpd,hma,hr,hK,m,L,D,F,a,w,G,h=>by
   simp only [Mq]at hr;split at hr
   ·cases hr
   split at hr
   ·rename_i af5;simp only [all_eq_true,mem_range]at af5;have hD:D=[]:=by
     cases D with
     | nil=>rfl
     | cons p D=>
       obtain⟨q1,q2,_⟩:=h.hD p (by simp);grind
    subst hD;obtain⟨s,⟨⟨H1,n1⟩,_,w1⟩,hr⟩:=GE ops.size il hw R' _ r hr;obtain⟨G',hR'⟩:=w1 F a w G h.hR;have hQ:(fun(e:Exit) (a':Act) (w':World)=>e= .normal /\ ∃ s G',PK s/\R F0 s a' w' G') .normal a w:=⟨rfl,s.toSt,G',hK H1 s n1 hr,h.ht.back hi0 hd0 hl0 hR'⟩;have hrd:Region.ready .any ops L.toArray=[]:=by
     rw [nX h.hL,List.filter_eq_nil_iff];intro i hi;have:bv L i=true:=by rw [h.hb,af5 i (by simpa using hi)];rfl
     simp [S2,this]
    cases m with
    | zero=>exact⟨hrd,hQ⟩
    | succ m=>exact⟨fun _=>hQ,fun i hi=>by rw [hrd]at hi;cases hi⟩
   ·cases hr
 | n+1,v,pd,st,H,hw,hpd,hma,hr,hK,m,L,D,F,a,w,G,h=>by
   obtain⟨hns,hp,aeX⟩:=Hv hst;have hQ: ∀ c a w, ¬(fun(e:Exit) (a':Act) (w':World)=>e= .normal /\ ∃ s G',PK s/\R F0 s a' w' G') (.panic c) a w:=(by grind);have hI:F.I=I:=h.ht.amM.trans hI0;have hm:a.tmps.size=st.m:=by rw [h.hR.size];exact BB _ _
   have hck:=aW hr;simp only [Mq]at hr;split at hr
   ·cases hr
   split at hr
   ·rename_i i an6;obtain⟨hil,alE,hcN⟩:=rL an6;have hiu:=uk alE;have hiD: ∀ b,(i,b)∉D:=fun b hb=>by obtain⟨_,_,o,d,x,arr,Tt,r1,r2,_⟩:=h.hD _ hb;grind [ul,rJ]
    have alD:=h.rdy hil alE hiD;have akl:=h.hdc.set hp alD;rw [B5]at akl;obtain⟨m',rfl⟩: ∃ m',m=m'+1:=⟨m - 1,by have:=h.pos hil hiu hiD;omega⟩;split at hr
    ·rename_i o hi;have hc:DO o ≠ 0:=by grind [O6]
     obtain⟨hgd,d,hd⟩:=Mh hc;have hdl:d∉o.looksAt ops:=(by grind);have au4:=fun cs b=>Region.noSelect_spec hns i o cs b hi;have go: ∀ (an:Af T) (H':As T) (pd':List QG),zn o st=true->Nx H st H' an->(∀ q∈pd',XQ P ops lz H' an.nx q)->(∃ u G',(∀ w',(DO o=2\/C1 w w')->(execOp a.eval o).run P w'= .ok (.value u) w')/\R F an.toSt (a.put o.dst u) w G')->
      Mq Γ rec ops pr lz il n (v.set i true) pd' an R' K=some r->D7 P ops (fun e a' w'=>e= .normal /\ ∃ s G',PK s/\R F0 s a' w' G') pr lz (m'+1) L.toArray a w:=by
      intro an H' pd' hlt hn au1 ⟨u,G',q_,hR'⟩ hq;have hW:wd P (i∈lz) o (a.put o.dst u) w:=by intro d' hd';refine⟨_, .inr rfl,fun w' hw'=>?_⟩;rw [hd]at hd';injection hd' with hd';subst hd';rw [execOp_put o au4 a o.dst u (fun e he=>by rw [hd]at he;injection he with he;exact he▸hdl),q_ w' hw',hd];simp_all [zn,Act.put]
      have hS':=db.take hst hi hc h.hdc alD h.hS hW;refine Ae6 (v:=u) hst hlz hi hc hQ m' L.toArray a w h.hdc alD ?_;rw [B5]at hS' ⊢;have hfx:Fx P ops pr lz F0 (v.set i true) an m' (L.set i true) D F (a.put o.dst u) w G':=?_
      ·intro a'' hu;have hf2:=hfx.ups hst hdn hlz hn.ok au1 (aW hq) hu;exact⟨hf2.hS,S3 hst hdn hlz abM il hI0 hi0 hd0 hl0 n (v.set i true) pd' an H' hn.ok au1 (Iu hma) hq (fun H'' s n' q=>hK H'' s (hn.trans n') q) m' _ D F _ w G' hf2⟩
      refine⟨⟨by simpa using h.hv,by simpa using h.hL,fun k=>?_,akl,h.n1,h.n2,fun p hp'=>?_,h.ht,?_,hR'⟩,hS'⟩
      ·rw [Di (by rw [h.hL];exact hil),Di (by rw [h.hv];exact hil),h.hb,Bool.or_assoc]
      ·obtain⟨q1,q2,q3⟩:=h.hD p hp';have Tj:p.1 ≠ i:=(by grind);refine⟨q1,by rw [Di (by rw [h.hv];exact hil),q2];grind,q3.move fun d' o' ho' hd'=>?_⟩;exact Et (fun e he=>HB hdn hi ho' (Ne.symm Tj) he hd')
      ·have h1:=YG h.hv hil hiu;have h2:=h.hc;omega
     have pdx: ∀ {an:Af T} {H':As T},Nx H st H' an-> ∀ q∈pd,XQ P ops lz H' an.nx q:=fun hn q hq=>(hpd q hq).nx hn;have atW: ∀ {B:St},Yld P I o st.toSt B->DO o ≠ 2-> ∃ u G',(∀ w',(DO o=2\/C1 w w')->(execOp a.eval o).run P w'= .ok (.value u) w')/\R F B (a.put o.dst u) w G':=fun hy h2=>by obtain⟨u,G',q1,q2⟩:=hy F a w G hI h.hR;grind
     split at hr
     ·rename_i h2 hlt;have h2:DO o=2:=(by simp_all);have hsl:O5 o.op=true:=by grind [DO]
      obtain⟨u,hu,hr⟩:=Mg hw (Ml _ _) o.op R' _ r hr;obtain⟨q1,q2,q3⟩:=hu rfl;obtain⟨H',hn⟩:=Af.aao hw o.dst q1;refine go _ H' pd hlt hn (pdx hn) ?_ hr;obtain⟨x,k1,k2⟩:=rm h.hR rfl hsl q2;change Ab w G (DZ P st.toSt true o.op).2 x at k1;rw [show (DZ P st.toSt true o.op).2=u.toV from q3]at k1;exact⟨x,G,fun w' _=>k2 w',by rw [Af.h_];exact h.hR.put k1⟩
     ·rename_i h2 hlt;have h2:DO o ≠ 2:=fun e=>by simp_all
      split at hr
      ·obtain⟨an,⟨⟨H',hn⟩,_,hy⟩,hr⟩:=uc (I:=I) hw R' _ r hr;grind
      ·obtain⟨an,⟨⟨H',hn⟩,_,hy⟩,hr⟩:=yO (I:=I) hw R' _ r hr;grind
      ·cases hr
      ·rename_i hld;have ay1:Ck o.op= .rd :=by
        unfold AhB at hld;split at hld
        ·rename_i q;rw [q];rfl
        ·cases hld
       split at hr
       ·rename_i an q hq;obtain⟨H',hn,_,hy,hpq,_⟩:=Aci (I:=I) hw (lz:=lz) (fun q=>Fq.1 q) hi hq;grind
       ·obtain⟨u,hu,hr⟩:=Mg hw (Ml _ _) o.op R' _ r hr;obtain⟨H',hn⟩:=Af.aao hw o.dst (hu rfl).1;exact go _ H' pd hlt hn (pdx hn) (atW (zd hw ay1 hu) h2) hr
     ·cases hr
    ·cases hr
   ·split at hr
    ·rename_i i an6;obtain⟨hil,alE⟩:=rK an6;have hiu:=uk alE;split at hr
     ·rename_i o hi hok;simp only [and_eq_true]at hok;obtain⟨hok,hun⟩:=hok;split at hr
      ·
       rename_i hc hmk;split at hr
       ·rename_i d x hd hx;split at hr
        ·rename_i s hs;have hxr: ∀ {m:Nat} {L:List Bool} {D:List (Nat×Nat)} {F:Fr} {a:Act} {w:World} {G:AG} {b:Nat},Fx P ops pr lz F0 v st m L D F a w G->(i,b)∈D->D7 P ops (fun e a' w'=>e= .normal /\ ∃ s G',PK s/\R F0 s a' w' G') pr lz m L.toArray a w:=by intro m L D F a w G b h hib;obtain⟨G',hfx⟩:=h.avW hi0 hl0 hw hib hi hd hx hs;obtain⟨_,_,_,_,_,_,_,r1,_,_,r4,r5,_⟩:=h.hD _ hib;simp only at r1;rw [hi]at r1;injection r1 with r1;subst r1;rw [hx]at r4;injection r4 with r4;subst r4;obtain⟨⟨H1,n1⟩,_,_⟩:=Af.acv hw r5.ok hs;obtain⟨H2,n2⟩:=Af.D_ n1 (some d) (v:= .c (.c (aS x (d::st.pre)))) (by simp only [DV.ok,DC.ok]);exact S3 hst hdn hlz abM il hI0 hi0 hd0 hl0 n (v.set i true) pd _ H2 n2.ok (fun q hq=>(hpd q hq).nx n2) (Iu hma) hr (fun H'' s n' q=>hK H'' s (n2.trans n') q) m _ _ _ a w G' hfx
         have main: ∀ (m:Nat) (L:List Bool) (D:List (Nat×Nat)) (F:Fr) (a:Act) (w:World) (G:AG),Fx P ops pr lz F0 v st m L D F a w G->D7 P ops (fun e a' w'=>e= .normal /\ ∃ s G',PK s/\R F0 s a' w' G') pr lz m L.toArray a w:=by
          intro m;induction m with
          | zero=>
            intro L D F a w G h;by_cases hiD: ∃ b,(i,b)∈D
            ·grind
            ·have:=h.pos hil hiu (by grind);omega
          | succ m ih=>
            intro L D F a w G h;by_cases hiD: ∃ b,(i,b)∈D
            ·grind
            ·have hiD: ∀ b,(i,b)∉D:=(by grind);refine⟨fun q=>(by have:=h.rdy hil alE hiD;grind),fun j hj=>?_⟩;have hmj:rJ ops j=true:=by
              by_cases hji:j=i
              ·grind [rJ]
              ·exact h.other hp hok hiD hj hji
             exact h.make hst hdn hlz hpd hck hi0 hw hma hun hj hmj (by grind)
         grind
        ·cases hr
       ·cases hr
      ·rename_i hc hmk;have hiD: ∀ {m:Nat} {L:List Bool} {D:List (Nat×Nat)} {F:Fr} {a:Act} {w:World} {G:AG},Fx P ops pr lz F0 v st m L D F a w G-> ∀ b,(i,b)∉D:=by intro m L D F a w G h b hb;obtain⟨_,_,o',_,_,_,_,r1,r2,_⟩:=h.hD _ hb;grind
       split at hr
       ·rename_i aHi;have hbs:zm o=true:=by grind
        have hg:o.guard=none:=by grind [zm]
        have main: ∀ (m:Nat) (L:List Bool) (D:List (Nat×Nat)) (F:Fr) (a:Act) (w:World) (G:AG),Fx P ops pr lz F0 v st m L D F a w G->D7 P ops (fun e a' w'=>e= .normal /\ ∃ s G',PK s/\R F0 s a' w' G') pr lz m L.toArray a w:=by
         intro m;induction m with
         | zero=>
           intro L D F a w G h;have:=h.pos hil hiu (hiD h);omega
         | succ m ih=>
           intro L D F a w G h;have alD:=h.rdy hil alE (hiD h);refine⟨(by grind),fun j hj=>?_⟩;by_cases hji:j=i
           ·subst hji;have hI:F.I=I:=h.ht.amM.trans hI0;have akl:=h.hdc.set hp alD;rw [B5]at akl;obtain⟨an,⟨⟨H',hn⟩,e1,e2,_⟩,hq⟩:=Yz hw o R' _ r hr;have avo:=aW hq;refine rn hst hlz hi hc h.hdc hj h.hS (K:=fun a' w'=>C1 w w'/\ ∃ G',R F an.toSt a' w' G') ?_ ?_ ?_ ?_
            ·rw [F7 hg,if_pos rfl];exact AhF hbs e1 e2 h.hR
            ·intro a' w' ⟨hsm,_⟩ p op hop hcp hpl hpf he1 he2 hW d hd;obtain⟨u,m1,m2⟩:=hW d hd;refine⟨u,by grind,fun w1 hw1=>?_⟩;have h1:=hw1.resolve_left (by rw [hcp];omega);rw [he1 w1 (hsm.trans h1)];exact m2 w1 (.inr (hsm.trans h1))
            ·intro a' w' a'' ⟨hsm,G',hR'⟩ ⟨p,op,d,u,u1,hop,u3,hpl,hpf,u6,ea⟩;subst ea;refine⟨hsm,G',?_⟩;have hcp:=(JD hlz u1 hop).1;have aGL:p ≠ j:=(by grind);have hvp:bv (v.set j true) p=true:=by
              rw [Di (by rw [h.hv];exact hil)];rcases DH hpl with e | q
              ·grind
              ·rw [GF,h.hb,or_eq_true]at q;rw [or_eq_true];rcases q with q | q
               ·exact .inr q
               ·exfalso;obtain⟨b,hb⟩:=Qe.1 q;obtain⟨_,_,o',_,_,_,_,r1,r2,_⟩:=h.hD _ hb;simp_all [Pg]
             simp only [Xn,all_eq_true,or_eq_true,not_eq_true']at avo;rcases avo p u1 with q | q | q
             ·grind
             ·exfalso;refine hpf ?_;simp only [zl,any_eq_true,mem_range,and_eq_true,beq_eq,Fq]at q;obtain⟨k,_,k1,k2,k3⟩:=q;refine⟨k,?_,k2,k3⟩;rw [B5,GF,Di (by rw [h.hL];exact hil),h.hb];rw [Di (by rw [h.hv];exact hil)]at k1;grind
             ·simp only [any_eq_true,and_eq_true,beq_eq]at q;obtain⟨q0,hq0,e0,an7⟩:=q;subst e0;obtain⟨r1,x,_,r2,r3⟩:=YF hn.ok ((hpd q0 hq0).nx hn) an7 hop hR';rw [u3]at r1;injection r1 with r1;subst r1;rw [r3 w' (C1.refl w')]at u6;have hxu:x=u:=by grind
              subst hxu;exact hR'.anx r2
            ·intro a' w' ⟨_,G',hR'⟩ ha' hS';rw [B5]at hS' ⊢;refine S3 hst hdn hlz abM il hI0 hi0 hd0 hl0 n (v.set j true) pd an H' hn.ok (fun q hq=>(hpd q hq).nx hn) (Iu hma) hq (fun H'' s n' q=>hK H'' s (hn.trans n') q) m _ D F a' w' G' ⟨⟨by simpa using h.hv,by simpa using h.hL,fun k=>?_,akl,h.n1,h.n2,fun p hp'=>?_,h.ht,?_,hR'⟩,hS'⟩
             ·rw [Di (by rw [h.hL];exact hil),Di (by rw [h.hv];exact hil),h.hb,Bool.or_assoc]
             ·obtain⟨q1,q2,q3⟩:=h.hD p hp';have Tj:p.1 ≠ j:=(by grind);refine⟨q1,by rw [Di (by rw [h.hv];exact hil),q2];grind,q3.move fun d' o' ho' hd'=>?_⟩;exact ha' d' (fun he=>HB hdn hi ho' (Ne.symm Tj) he hd' rfl) fun p2 op2 hp2 hc2 hd2=>by have hpp:p2 ≠ p.1:=(by grind [AhE]);exact HB hdn hp2 ho' hpp hd2 hd' rfl
             ·have h1:=YG h.hv hil hiu;have h2:=h.hc;omega
           ·exact h.make hst hdn hlz hpd hck hi0 hw hma hun hj (h.other hp hok (hiD h) hj hji) (by grind)
        grind
       ·skip;have main: ∀ (m:Nat) (L:List Bool) (D:List (Nat×Nat)) (F:Fr) (a:Act) (w:World) (G:AG),Fx P ops pr lz F0 v st m L D F a w G->D7 P ops (fun e a' w'=>e= .normal /\ ∃ s G',PK s/\R F0 s a' w' G') pr lz m L.toArray a w:=by
         intro m;induction m with
         | zero=>
           intro L D F a w G h;have:=h.pos hil hiu (hiD h);omega
         | succ m ih=>
           intro L D F a w G h;have alD:=h.rdy hil alE (hiD h);refine⟨(by grind),fun j hj=>?_⟩;by_cases hji:j=i
           ·subst hji;have hI:F.I=I:=h.ht.amM.trans hI0;have akl:=h.hdc.set hp alD;rw [B5]at akl;have hwp:=AfL abM hw (PK:=fun s=> ∃ H' an,Nx H st H' an/\aV ops pr (v.set j true) pd an=true/\Mq Γ rec ops pr lz il n (v.set j true) pd an R' K=some r/\s=an.toSt) hr (by grind);have fresh: ∀ {an:Af T} {p:Nat} {op:Oper},aV ops pr (v.set j true) pd an=true->ops[p]? =some op->DO op=1->L.toArray.getD p false=true-> ¬Frc ops pr p (L.toArray.setIfInBounds j true)-> ∃ q∈pd,q.i=p/\wH an q=true:=by
             intro an p op hck hop hcp hpl hpf;simp only [aV,all_eq_true,mem_range,or_eq_true,not_eq_true']at hck;have ay8:p<ops.size:=(by grind);have hLp:(L.set j true).toArray.getD p false=true:=by grind [getD_set_true]
             have aHg:O6 ops p=1:=by grind [O6]
             have hvp:bv (v.set j true) p=true:=by
              rw [GF,Di (by rw [h.hL];exact hil),h.hb]at hLp;rw [Di (by rw [h.hv];exact hil)];simp only [or_eq_true]at hLp ⊢;rcases hLp with q | q | q
              ·exact .inl q
              ·exact .inr q
              ·exfalso;obtain⟨b,hb⟩:=Qe.1 q;obtain⟨_,_,o',_,_,_,_,r1,r2,_⟩:=h.hD _ hb;grind [ul,rJ]
             rcases hck p ay8 with q | q | q | q
             ·grind
             ·simp_all
             ·exfalso;refine hpf ?_;simp only [zl,any_eq_true,mem_range,and_eq_true,beq_eq,Fq]at q;obtain⟨k,_,k1,k2,k3⟩:=q;refine⟨k,?_,k2,k3⟩;rw [B5,GF,Di (by rw [h.hL];exact hil),h.hb];rw [Di (by rw [h.hv];exact hil)]at k1;grind
             simp_all
            refine rn hst hlz hi hc h.hdc hj h.hS (K:=fun a' w'=> ∃ H' an G',Nx H st H' an/\aV ops pr (v.set j true) pd an=true/\Mq Γ rec ops pr lz il n (v.set j true) pd an R' K=some r/\R F an.toSt a' w' G') ?_ ?_ ?_ ?_
            ·have:=U3 (Q:=fun e a' w'=>e= .normal /\ ∃ s G',PK s/\R F0 s a' w' G') h.hR (by rw [hI];exact hwp);have cv: ∀ a' w',mv F (fun s=> ∃ s',Wk s s'/\ ∃ H' an,Nx H st H' an/\aV ops pr (v.set j true) pd an=true/\Mq Γ rec ops pr lz il n (v.set j true) pd an R' K=some r/\s'=an.toSt) a' w'-> ∃ H' an G',Nx H st H' an/\aV ops pr (v.set j true) pd an=true/\Mq Γ rec ops pr lz il n (v.set j true) pd an R' K=some r/\R F an.toSt a' w' G':=by rintro a' w' ⟨s,G1,⟨s',hwk,H',an,k1,k2,k3,rfl⟩,hR1⟩;obtain⟨G2,hR2⟩:=hwk _ _ _ _ hR1;grind
             split at this
             ·rename_i hwt;rw [if_pos hwt];exact Oper.wp_mono cv this
             ·rename_i hwt;rw [if_neg hwt];exact cv _ _ this
            ·intro a' w' ⟨H',an,G',hn,hck,_,hR'⟩ p op hop hcp hpl hpf _ _ _;obtain⟨q0,hq0,e0,an7⟩:=fresh hck hop hcp hpl hpf;subst e0;exact zc hn.ok ((hpd q0 hq0).nx hn) an7 hop hcp hR'
            ·intro a' w' a'' ⟨H',an,G',hn,hck,hq,hR'⟩ ⟨p,op,d,u,u1,hop,u3,hpl,hpf,u6,ea⟩;subst ea;have hcp:=(JD hlz u1 hop).1;refine⟨H',an,G',hn,hck,hq,?_⟩;have ar8:L.toArray.getD p false=true:=by grind [DH]
             obtain⟨q0,hq0,e0,an7⟩:=fresh hck hop hcp ar8 hpf;subst e0;obtain⟨r1,x,_,r2,r3⟩:=YF hn.ok ((hpd q0 hq0).nx hn) an7 hop hR';rw [u3]at r1;injection r1 with r1;subst r1;rw [r3 w' (C1.refl w')]at u6;have hxu:x=u:=by grind
             subst hxu;exact hR'.anx r2
            ·intro a' w' ⟨H',an,G',hn,_,hq,hR'⟩ ha' hS';rw [B5]at hS' ⊢;refine S3 hst hdn hlz abM il hI0 hi0 hd0 hl0 n (v.set j true) pd an H' hn.ok (fun q hq=>(hpd q hq).nx hn) (Iu hma) hq (fun H'' s n' q=>hK H'' s (hn.trans n') q) m _ D F a' w' G' ⟨⟨by simpa using h.hv,by simpa using h.hL,fun k=>?_,akl,h.n1,h.n2,fun p hp'=>?_,h.ht,?_,hR'⟩,hS'⟩
             ·rw [Di (by rw [h.hL];exact hil),Di (by rw [h.hv];exact hil),h.hb,Bool.or_assoc]
             ·obtain⟨q1,q2,q3⟩:=h.hD p hp';have Tj:p.1 ≠ j:=(by grind);refine⟨q1,by rw [Di (by rw [h.hv];exact hil),q2];grind,q3.move fun d' o' ho' hd'=>?_⟩;exact ha' d' (fun he=>HB hdn hi ho' (Ne.symm Tj) he hd' rfl) fun p2 op2 hp2 hc2 hd2=>by have hpp:p2 ≠ p.1:=(by grind [AhE]);exact HB hdn hp2 ho' hpp hd2 hd' rfl
             ·have h1:=YG h.hv hil hiu;have h2:=h.hc;omega
           ·exact h.make hst hdn hlz hpd hck hi0 hw hma hun hj (h.other hp hok (hiD h) hj hji) (by grind)
        grind
      ·cases hr
     ·cases hr
    ·cases hr
def AjF:HA->Bool
 | .q .lz =>true
 | _=>false
def zu (ops:Array Oper) (il:Hl):List Nat:=match (List.range ops.size).any fun i=>match Mp il i with
    | .c _=>true
    | .j .. =>true
    | _=>false with
 | true=>(List.range ops.size).filter fun i=>QE ops [i]
 | false=>(List.range ops.size).filter fun i=>AjF (Mp il i)&&QE ops [i]
theorem zw {ops:Array Oper} {il:Hl}:QE ops (zu ops il)=true:=by
 unfold zu;split
 ·grind [QE]
 ·unfold QE;grind
def AfM {P:Program} {I:World->Prop} (Γ:List (CE T P I)) (rec:wE T) (ops:Array Oper) (il:Hl) (pr:List (List Nat)) (st:Af T) (R:Type) (K:Af T->Option R):Option R:=match Ve ops pr&&(aT ops&&aU P ops st)with
 | true=>Mq Γ rec ops pr (zu ops il) il ops.size (List.replicate ops.size false) [] (wJ ops.toList st) R K
 | false=>none
theorem j6: ∀ (l:List Oper) {H:As T} {st:Af T},AH H st->(∃ H',Nx H st H' (wJ l st))/\Wk st.toSt (wJ l st).toSt
 | [],H,st,hw=>⟨⟨H,Nx.refl hw⟩,Wk.less (Cp.refl _)⟩
 | o::r,H,st,hw=>by
   unfold wJ;split
   ·obtain⟨H1,n1⟩:=Af.aao hw o.dst (v:= .u) (by simp only [DV.ok]);obtain⟨⟨H2,n2⟩,w2⟩:=j6 r n1.ok;refine⟨⟨H2,n1.trans n2⟩,Wk.trans ?_ w2⟩;intro F a w G hR;refine⟨G,?_⟩;rw [Af.h_];cases hd:o.dst with
    | none=>exact hR
    | some d=>exact hR.afV (by simp only [DV.toV,Ab])
   ·exact j6 r hw
theorem Acl (ab5:P.follows .mixedOrders =true) (abM:nU P I rec) {il:Hl} {id:Nat} (hw:AH H st) {R':Type} {K:Af T->Option R'} {r:R'} (hr:AfM Γ rec ops il pr st R' K=some r) {F:Fr} (hI:F.I=I) {PK:St->Prop} {Q:Exit->St->Prop} (hPK: ∀ s,PK s->Q .normal s)
 (hK: ∀ H' an,Nx H st H' an->K an=some r->PK an.toSt):Ae P F (.region id ops true) st.toSt Q:=by
 unfold AfM at hr;split at hr
 ·rename_i hst;simp only [and_eq_true]at hst;obtain⟨hst,hdn,hma⟩:=hst;obtain⟨⟨H1,n1⟩,w1⟩:=j6 ops.toList hw;refine Ae.wk w1 ?_;intro a w G hR;have hR':=hR.same (w':={w with drawn:=w.drawn+1}) ⟨rfl,rfl,rfl⟩ ⟨le_refl _,fun _ _=>rfl⟩;have hz: ∀ k,bv (List.replicate ops.size false) k=false:=(by grind [bv]);have hz2: ∀ k,(List.replicate ops.size false).toArray.getD k false=false:=fun k=>by rw [GF,hz]
  have hu:(unv ops.size (List.replicate ops.size false)).length <=ops.size:=by grind [unv]
  have key:=S3 (pr:=pr) hst hdn zw abM il hI hR.inv hR.aah hR.aaS ops.size _ [] _ H1 n1.ok (by grind) (Iu hma) hr (fun H' s n q=>hK H' s (n1.trans n) q) ops.size (List.replicate ops.size false) [] F a {w with drawn:=w.drawn+1} G
   (.mk ⟨(by simp),(by simp),(by grind),(fun k hk=>by rw [hz2]at hk;cases hk),List.nodup_nil,List.nodup_nil,(by grind),Ll.start F,(by grind),hR'⟩ (fun i o _ _ hl=>by rw [hz2]at hl;cases hl))
  have:=Z1 _ _ _ _ key;have h2:=wp_region_any (id:=id) ab5 (by simpa using this);grind [Code.wp_mono]
 ·cases hr
end
end Go.PL
namespace Go.PL
open Go Go.RowKit
variable {T:Bo}
def ET (T:Bo):List (Nat×Iq)->Type
 | []=>Empty
 | [x]=>RT T x.2.ts
 | x::y::r=>RT T x.2.ts⊕ET T (y::r)
def zx {α β:Type} (f:α->β):Option α->Option β
 | some x=>some (f x)
 | none=>none
def wK (st0 an:Af T) (k:Nat):(xs:List (Nat×Iq))->Option (ET T xs)
 | []=>none
 | [x]=>match Nat.beq x.1 k with
   | true=>x.2.gen st0 an
   | false=>none
 | x::y::r=>match Nat.beq x.1 k with
   | true=>zx Sum.inl (x.2.gen st0 an)
   | false=>zx Sum.inr (wK st0 an k (y::r))
def gT {R:Type} (st0:Af T) (K:Nat->Af T->Option R):(xs:List (Nat×Iq))->ET T xs->Option R
 | []=>fun o=>nomatch o
 | [x]=>fun v=>match x.2.inst st0 (CC x.2.ts v)with
   | some s=>K x.1 s
   | none=>none
 | x::y::r=>Sum.elim (fun v=>match x.2.inst st0 (CC x.2.ts v)with
   | some s=>K x.1 s
   | none=>none) (gT st0 K (y::r))
def rM:Nat->Exit
 | 0=> .ret
 | n+1=> .exit n
def Qf:Exit->Option Nat
 | .ret =>some 0
 | .exit n=>some (n+1)
 | _=>none
theorem rN {e:Exit} {k:Nat} (h:Qf e=some k):rM k=e:=by
 cases e<;>simp only [Qf,injEq]at h<;>first
  | (subst h;rfl)
  | grind
theorem Vz {α β:Type} {f:α->β} {o:Option α} {y:β} (h:zx f o=some y): ∃ x,o=some x/\f x=y:=by
 cases o with
 | none=>cases h
 | some x=>injection h with h;grind
theorem um {H H':As T} {R:Type} {st0 an:Af T} {k:Nat} {K:Nat->Af T->Option R} {r:R} (h0:AH H st0) (hN:Nx H st0 H' an): ∀ {xs:List (Nat×Iq)} {o:ET T xs},wK st0 an k xs=some o->gT st0 K xs o=some r->
 ∃ s H2,Wk an.toSt s.toSt/\Nx H st0 H2 s/\K k s=some r
 | [],o,h,_=>by cases h
 | [x],o,h,he=>by
   simp only [wK]at h;split at h
   ·rename_i hb;have hb:=eq_of_beq_eq_true hb;subst hb;simp only [gT]at he;split at he
    ·rename_i s hi;obtain⟨H2,n2⟩:=Iq.afs h0 (Ex _ _) hi;exact⟨s,H2,Iq.ae1 h0 hN h hi,n2,he⟩
    ·cases he
   ·cases h
 | x::y::r',o,h,he=>by
   simp only [wK]at h;split at h
   ·rename_i hb;have hb:=eq_of_beq_eq_true hb;subst hb;obtain⟨v,h1,rfl⟩:=Vz h;simp only [gT,Sum.elim_inl]at he;split at he
    ·rename_i s hi;obtain⟨H2,n2⟩:=Iq.afs h0 (Ex _ _) hi;grind [Iq.ae1]
    ·cases he
   ·obtain⟨v,h1,rfl⟩:=Vz h;simp only [gT,Sum.elim_inr]at he;exact um h0 hN h1 he
theorem wL {σ ρ:Type} {B:σ->Option (σ⊕ρ)} {n:Nat} {s:σ} {o:ρ} (h:PL.iter B n s=some o): ∃ z,B s=some z:=by
 cases n with
 | zero=>cases h
 | succ n=>
   simp only [PL.iter]at h;grind
section
variable {P:Program} {I:World->Prop}
def AfN (Γ:List (CE T P I)) (rec:wE T) (ops:Array Oper) (dr:Bool) (fz:List Ah) (ow:List (Ah×Nat×Ah×Nat)) (il:Hl) (st:Af T) (R:Type) (K:Af T->Option R):Option R:=
 match dr with
 | false=>aR Γ rec ops il ops.toList 0 (FV fz st) R fun s=>match nT ow s with
   | some s'=>K s'
   | none=>none
 | true=>match Ajz il with
   | true=>Vv il 0 (FV fz st) R fun s0=>AfM Γ rec ops il (AhA ops) s0 R fun s=>match nT ow s with
     | some s'=>K s'
     | none=>none
   | false=>match Region.lexB .any ops with
     | true=>yF Γ ops ops.toList (FV fz st) R fun s=>match nT ow s with
       | some s'=>K s'
       | none=>none
     | false=>none
def AfO:Hn->List Ah×List (Ah×Nat×Ah×Nat)×Hl
 | .r fz ow il=>(fz,ow,il)
 | _=>([],[], .n)
def zy {R:Type} (N:Af T->Option R) (K:Exit->Af T->Option R) (e:Exit) (s:Af T):Option R:=match e with
 | .normal =>N s
 | e=>K e s
def zz {R:Type} (j:Nat) (K:Exit->Af T->Option R) (e:Exit) (s:Af T):Option R:=match e with
 | .exit i=>match Nat.beq i j with
   | true=>K .normal s
   | false=>K (.exit i) s
 | e=>K e s
def QP {α:Type} (h:Hn) (o:Option α):Option α:=match h with
 | .x =>none
 | _=>o
theorem Ez {α:Type} {h:Hn} {o:Option α} {x:α} (q:QP h o=some x):o=some x:=by grind [QP]
def LN (Γ:List (CE T P I)) (rec:wE T):Code->Hn->Af T->(R:Type)->(Exit->Af T->Option R)->Option R
 | .skip,h,st,_,K=>QP h (K .normal st)
 | .ret,h,st,_,K=>QP h (K .ret st)
 | .exit j,h,st,_,K=>QP h (K (.exit j) st)
 | .label _,h,st,_,K=>QP h (K .normal st)
 | .scope c,h,st,R,K=>QP h (LN Γ rec c h st R fun e s=>match Qf e with
   | some _=>K e s
   | none=>match e with
     | .normal =>K .normal s
     | _=>none)
 | .block j c,h,st,R,K=>QP h (LN Γ rec c h st R (zz j K))
 | .cond c x y,h,st,R,K=>QP h (match st.ev c with
   | .c (.k .bool b)=>if(show Bool from b) then LN Γ rec x h.a st R K else LN Γ rec y h.b st R K
   | _=>none)
 | .seq a b,h,st,R,K=>match h with
   | .j sh ha hb=>jn (fun v:RT T sh.ts=>match sh.inst st (CC sh.ts v)with
    | some s=>LN Γ rec b hb s R K
    | none=>none) (fun j=>LN Γ rec a ha st R (zy (fun s=>match sh.gen st s with
      | some v=>j v
      | none=>none) K))
   | .x =>none
   | h=>LN Γ rec a h.a st R (zy (fun s=>LN Γ rec b h.b s R K) K)
 | .region _ ops dr,h,st,R,K=>QP h (AfN Γ rec ops dr (AfO h).1 (AfO h).2.1 (AfO h).2.2 st R (K .normal))
 | .loop c,h,st,R,K=>match h with
   | .l sh xs hb=>match sh.gen st st with
     | some v0=>(iter (fun v:RT T sh.ts=>match sh.inst st (CC sh.ts v)with
      | some s=>LN Γ rec c hb s (RT T sh.ts⊕ET T xs) fun e s'=>match e with
        | .normal =>match sh.gen st s' with
          | some v'=>match sh.inst st (CC sh.ts v')with
            | some _=>some (.inl v')
            | none=>none
          | none=>none
        | e=>match Qf e with
          | some k=>zx Sum.inr (wK st s' k xs)
          | none=>none
      | none=>none) FU v0).bind (gT st (fun k s=>K (rM k) s) xs)
     | none=>none
   | _=>none
 | _,_,_,_,_=>none
theorem Ae.wkQ {F:Fr} {c:Code} {st:St} {Q:Exit->St->Prop} (h:Ae P F c st (fun e s=> ∃ s',Wk s s'/\Q e s')):Ae P F c st Q:=fun a w G hR=>
 Code.wp_mono (fun _ _ _ ⟨_,G',⟨s',hwk,hq⟩,hR'⟩=>by obtain⟨G'',q⟩:=hwk _ _ _ _ hR';grind) (h a w G hR)
theorem Acm {Γ:List (CE T P I)} {rec:wE T} (ab5:P.follows .mixedOrders =true) (abM:nU P I rec) {ops:Array Oper} {id:Nat} {dr:Bool} {fz:List Ah} {ow:List (Ah×Nat×Ah×Nat)} {il:Hl} {st:Af T} {H:As T} (hw:AH H st) {R:Type} {K:Af T->Option R} {r:R}
 (hr:AfN Γ rec ops dr fz ow il st R K=some r) {F:Fr} (hI:F.I=I) {Q:Exit->St->Prop} (hK: ∀ H' an,Nx H st H' an->K an=some r->Q .normal an.toSt):Ae P F (.region id ops dr) st.toSt Q:=by
 obtain⟨⟨H1,n1⟩,w1⟩:=Gm (l:=fz) (Nx.refl hw);refine Ae.wk w1 (Ae.wkQ ?_);have fin: ∀ H' s,Nx H1 (FV fz st) H' s->(match nT ow s with | some s'=>K s' | none=>none)=some r-> ∃ s',Wk s.toSt s'/\Q .normal s':=by
  intro H' s n q;split at q
  ·rename_i s' hs;obtain⟨⟨H2,n2⟩,w2,_⟩:=gQ (n1.trans n) hs;grind
  ·cases q
 unfold AfN at hr;split at hr
 ·refine Ae.apr ?_;rw [hI];exact uj abM il _ 0 _ H1 n1.ok R _ r hr (fun s=> ∃ s',Wk s s'/\Q .normal s') (by grind)
 ·split at hr
  ·obtain⟨s0,⟨⟨H0,n0⟩,_,w0⟩,hr⟩:=GE 0 il n1.ok R _ r hr;exact Ae.wk w0 (Acl ab5 abM n0.ok hr hI (PK:=fun s=> ∃ s',Wk s s'/\Q .normal s') (fun _ h=>h) fun H' s n q=>fin H' s (n0.trans n) q)
  split at hr
  ·rename_i hl;refine Ae.aps ab5 hl ?_;rw [hI];obtain⟨s,⟨⟨H2,n2⟩,_,w2⟩,hr⟩:=nD (Γ:=Γ) (ops:=ops) ops.toList (FV fz st) H1 n1.ok R _ r hr;grind
  ·cases hr
theorem FI {Γ:List (CE T P I)} {rec:wE T} (ab5:P.follows .mixedOrders =true) (abM:nU P I rec): ∀ (c:Code) (h:Hn) (st:Af T) (H:As T) (R:Type) (K:Exit->Af T->Option R) (r:R),AH H st->LN Γ rec c h st R K=some r->
 ∀ (F:Fr) (Q:Exit->St->Prop),F.I=I->(∀ H' e an,Nx H st H' an->K e an=some r->Q e an.toSt)->Ae P F c st.toSt Q
 | .skip,h,st,H,R,K,r,hw,hr,F,Q,hI,hK=>Ae.skip (hK H _ st (Nx.refl hw) (Ez hr))
 | .ret,h,st,H,R,K,r,hw,hr,F,Q,hI,hK=>Ae.ret (hK H _ st (Nx.refl hw) (Ez hr))
 | .exit j,h,st,H,R,K,r,hw,hr,F,Q,hI,hK=>Ae.exit (hK H _ st (Nx.refl hw) (Ez hr))
 | .label j,h,st,H,R,K,r,hw,hr,F,Q,hI,hK=>Ae.label (hK H _ st (Nx.refl hw) (Ez hr))
 | .scope c,h,st,H,R,K,r,hw,hr,F,Q,hI,hK=>by
   refine Ae.scope (FI ab5 abM c h st H R _ r hw (Ez hr) F _ hI fun H' e an n q=>?_);cases e<;>simp only [Qf]at q<;>first
    | (cases q;done)
    | exact hK H' _ an n q
 | .block j c,h,st,H,R,K,r,hw,hr,F,Q,hI,hK=>by
   refine Ae.block (FI ab5 abM c h st H R _ r hw (Ez hr) F _ hI fun H' e an n q=>?_);cases e with
   | exit i=>
     simp only [zz]at q;simp only [Cl];split at q
     ·rename_i hb;rw [if_pos (eq_of_beq_eq_true hb)];grind
     ·rename_i hb;rw [if_neg (fun e=>by simp_all)];grind
   | _=>exact hK H' _ an n q
 | .cond c x y,h,st,H,R,K,r,hw,hr,F,Q,hI,hK=>by
   simp only [LN]at hr;replace hr:=Ez hr;split at hr
   ·rename_i b hb;have hev:=st.abS c;rw [hb]at hev;refine Ae.cond (b:=b) hev (fun e=>?_) (fun e=>?_)
    ·rw [if_pos e]at hr;exact FI ab5 abM x h.a st H R K r hw hr F Q hI hK
    ·rw [if_neg (by rw [show (show Bool from b)=b from rfl,e];simp)]at hr;exact FI ab5 abM y h.b st H R K r hw hr F Q hI hK
   ·cases hr
 | .region id ops dr,h,st,H,R,K,r,hw,hr,F,Q,hI,hK=>by grind [LN,Acm,Ez]
 | .seq a b,h,st,H,R,K,r,hw,hr,F,Q,hI,hK=>by
   simp only [LN]at hr;split at hr
   ·rename_i sh ha hb;unfold jn at hr;refine Sj (X:=RT T sh.ts) (fun v=>match sh.inst st (CC sh.ts v)with | some s=>s.toSt | none=>st.toSt) (fun v=> ∃ s,sh.inst st (CC sh.ts v)=some s/\LN Γ rec b hb s R K=some r) ?_ ?_
    ·refine FI ab5 abM a ha st H R _ r hw hr F _ hI fun H' e an n q=>?_;cases e<;>grind [zy,Cq,Iq.ae1]
    ·rintro v ⟨s,hi,q⟩;rw [hi];obtain⟨H2,n2⟩:=Iq.afs hw (Ex _ _) hi;exact FI ab5 abM b hb s H2 R K r n2.ok q F Q hI fun H' e an n' q'=>hK H' e an (n2.trans n') q'
   ·cases hr
   ·refine Ae.seq (FI ab5 abM a _ st H R _ r hw hr F _ hI fun H' e an n q=>?_);cases e with
    | normal=>exact FI ab5 abM b _ an H' R K r n.ok q F Q hI fun H'' e aro n' q'=>hK H'' e aro (n.trans n') q'
    | _=>exact hK H' _ an n q
 | .loop c,h,st,H,R,K,r,hw,hr,F,Q,hI,hK=>by
   simp only [LN]at hr;split at hr
   ·rename_i sh xs hb;split at hr
    ·rename_i v0 hg0;obtain⟨o,hi,hx⟩:=bS hr;have ave: ∃ s,sh.inst st (CC sh.ts v0)=some s:=by obtain⟨z,hz⟩:=wL hi;grind
     obtain⟨s0,hs0⟩:=ave;refine It (fun v=>match sh.inst st (CC sh.ts v)with | some s=>s.toSt | none=>st.toSt) hi ?_ fun v z hz ho=>?_
     ·rw [hs0];exact Iq.ae1 hw (Nx.refl hw) hg0 hs0
     ·split at hz
      ·rename_i s hs;obtain⟨H2,n2⟩:=Iq.afs hw (Ex _ _) hs;have aCS: ∀ (H':As T) (e:Exit) (an:Af T) (k:Nat),Nx H2 s H' an->Qf e=some k->zx Sum.inr (wK st an k xs)=some z-> ∃ s'',Wk an.toSt s''/\Q e s'':=by intro H' e an k n he q;obtain⟨o',h1,h2⟩:=Vz q;have:=ho o' h2.symm;subst this;obtain⟨s'',H3,w3,n3,k3⟩:=um (K:=fun k s=>K (rM k) s) hw (n2.trans n) h1 hx;grind [rN]
       have main:=FI ab5 abM c hb s H2 _ _ z n2.ok hz F (fun e s'=>match e with
        | .normal => ∃ v',z= .inl v'/\Wk s' (match sh.inst st (CC sh.ts v')with | some s=>s.toSt | none=>st.toSt)
        | e=> ∃ s'',Wk s' s''/\Q e s'') hI fun H' e an n q=>by
          cases e with
          | normal=>
            simp only at q;split at q
            ·rename_i v' hg;split at q
             ·rename_i s1 hs1;injection q with q;refine⟨v',q.symm,?_⟩;rw [hs1];exact Iq.ae1 hw (n2.trans n) hg hs1
             ·cases q
            ·cases q
          | ret=>grind
          | exit i=>grind
          | goto l=>cases q
          | panic ch=>cases q
          | outgrown=>cases q
       refine Ae.wkQ (main.mono fun e s' q=>?_);cases e with
       | normal=>exact⟨s',Wk.less (Cp.refl _),q⟩
       | _=>exact q
      ·cases hz
    ·cases hr
   ·cases hr
 | .rangeFunc ..,h,st,H,R,K,r,hw,hr,F,Q,hI,hK=>by grind [LN]
 | .goto _,h,st,H,R,K,r,hw,hr,F,Q,hI,hK=>by grind [LN]
 | .refuse _,h,st,H,R,K,r,hw,hr,F,Q,hI,hK=>by grind [LN]
end
end Go.PL
namespace Go.PL
open Go Go.RowKit
variable {T:Bo}
def Mr:(ts:List VT)->XS T ts->List (DV T)
 | [],_=>[]
 | t::ts,x=>QN t x.1::Mr ts x.2
theorem VA: ∀ (ts:List VT) (x:XS T ts),Bg (Mr ts x)=Gf ts x
 | [],_=>by simp only [Mr,Bg,Gf]
 | t::ts,x=>by simp only [Mr,Bg,Gf,P8,VA ts]
theorem aX {H:As T} {n:Nat}: ∀ (ts:List VT) (x:XS T ts),CX H n (Mr ts x)
 | [],_=>by simp only [Mr,CX]
 | t::ts,x=>by simp only [Mr,CX,SQ,aX ts,and_self]
def aY (args:List (DV T)) (n:Nat):Af T:=GB 0 args ⟨n,[],[],[],[],0⟩
theorem gU {args:List (DV T)} {n:Nat} (ha: ∀ H:As T,CX H 0 args): ∃ H,AH H (aY args n):=by let H0:As T:=⟨fun _=> .u,fun _=>⟨[],0, .box []⟩⟩;have h0:AH H0 (⟨n,[],[],[],[],0⟩:Af T):=⟨fun _ _ _ hm=>by simp at hm,(by grind),(by grind),by simp⟩;obtain⟨H,hN⟩:=RF (i:=0) (Nx.refl h0) (ha H0);exact⟨H,hN.ok⟩
theorem Xo {args:List (DV T)} {n:Nat} (hl:args.length<=n):(aY args n).toSt =St.start (Bg args) n:=by obtain⟨a,b,c,d⟩:=Nd args 0 (⟨n,[],[],[],[],0⟩:Af T);unfold aY;simp only [Af.toSt,a,b,c,d,St.start,map_nil,List.flatMap_nil];rw [aq hl];intro j;rw [RG];simp only [Nat.zero_le,true_and,zero_add,Nat.sub_zero];rfl
section
variable {H:As T} {P:Program} {I:World->Prop} {st:Af T}
def AfP (P:Program) (st:Af T) (t:VT) (x:ResultVar):M (Eu T t):= .M_ (Xf P st x) fun v=>match jE st v with
 | some w=> .sm (yD t w)
 | none=> .no
def gV (P:Program) (st:Af T):(ts:List VT)->List ResultVar->M (RT T ts)
 | [],[]=> .ret ()
 | [t],[x]=>AfP P st t x
 | t::u::ts,x::xs=> .M_ (AfP P st t x) fun a=> .M_ (gV P st (u::ts) xs) fun b=> .ret (a,b)
 | _,_=> .no
theorem wM (x:ResultVar) (s:St):SA P s x=((QA P s x).1,BF s (QA P s x).2):=by cases x<;>rfl
theorem up (hw:AH H st) (t:VT) (x:ResultVar):Yl (AfP P st t x) (fun r=>(SA P st.toSt x).1/\(SA P st.toSt x).2=Ev t r):=
 Yl.M_ (Kq hw x) fun v hv=>by
  obtain⟨a,b,c⟩:=hv;split
  ·rename_i w hs;refine Yl.sm fun r hr=>?_;rw [wM];exact⟨b,by simp only;rw [c,Xc hs,Z4 hr]⟩
  ·exact Yl.no
theorem nY (hw:AH H st): ∀ (ts:List VT) (xs:List ResultVar),Yl (gV P st ts xs) (fun r=>(F8 P st.toSt xs).1/\(F8 P st.toSt xs).2=Cs ts r/\xs.length=ts.length)
 | [],[]=>Yl.ret ⟨trivial,by simp only [F8,Cs],rfl⟩
 | [t],[x]=>(up hw t x).mono fun r h=>⟨⟨h.1,trivial⟩,congrArg (fun z=>[z]) h.2,rfl⟩
 | t::u::ts,x::xs=>Yl.M_ (up hw t x) fun a ha=>Yl.M_ (nY hw (u::ts) xs) fun b hb=>Yl.ret (by
   simp_all [F8,Cs])
 | [],_::_=>Yl.no
 | [_],[]=>Yl.no
 | [_],_::_::_=>Yl.no
 | _::_::_,[]=>Yl.no
theorem AfQ (hw:AH H st) {ts:List VT} {xs:List ResultVar}:Yl (gV P st ts xs) (fun r=>(DA P st.toSt xs).1/\(DA P st.toSt xs).2=Ji ts r):=
 (nY hw ts xs).mono fun r h=>by
  obtain⟨h1,h2,h3⟩:=h
  match ts,xs,r,h1,h2,h3 with
  | [],[],r,h1,h2,_=>grind [DA,Ji,Cs]
  | [t],[x],r,h1,h2,_=>
    simp only [F8]at h1 h2;refine⟨h1.1,?_⟩;have:[(SA P st.toSt x).2]=[Ev t r]:=h2;injection this
  | t::u::ts,x::y::xs,r,h1,h2,_=>grind [DA,Ji]
  | [],_::_,_,_,_,h3=>simp at h3
  | [_],[],_,_,_,h3=>simp at h3
  | [_],_::_::_,_,_,_,h3=>simp at h3
  | _::_::_,[],_,_,_,h3=>simp at h3
  | _::_::_,[_],_,_,_,h3=>simp at h3
theorem Xp: ∀ (ts:List VT) (x:RT T ts),Ci (Cs ts x)=true
 | [],_=>by simp only [Cs,Ci]
 | [t],x=>by simp only [Cs,Ci,Bool.and_true];exact Dh t x
 | t::u::ts,x=>by simp only [Cs,Ci,Dh,Xp (u::ts),Bool.and_self]
theorem gW: ∀ (ts:List VT) (x:RT T ts),(Ji ts x).pure =true
 | [],_=>by simp only [Ji,V.pure,Ci]
 | [t],x=>Dh t x
 | t::u::ts,x=>by grind [Ji,V.pure,Xp]
def zB (Γ:List (CE T P I)):Nat->wE T
 | 0=>fun _ _ _ _ _=>none
 | n+1=>fun R c h st K=>LN Γ (zB Γ n) c h st R K
theorem j8 {Γ:List (CE T P I)} (ab5:P.follows .mixedOrders =true): ∀ n,nU P I (zB Γ n)
 | 0=>fun _ _ _ _ _ _ _ _ hr=>by simp [zB]at hr
 | n+1=>fun R c h st H K r hw hr F Q hI hK=>FI ab5 (j8 ab5 n) c h st H R K r hw hr F Q hI hK
def AhG (P:Program) (rs:List VT) (xs:List ResultVar) (e:Exit) (st:Af T):Option (RT T rs):=match e with
 | .normal =>gV P st rs xs _ some
 | .ret =>gV P st rs xs _ some
 | _=>none
def uq (Γ:List (CE T P I)) (n:Nat) (fn:Func) (body:Code) (h:Hn) (ps rs:List VT) (x:XS T ps):Option (RT T rs):=
 match Nat.ble (Mr ps x).length fn.ntmps with
 | true=>LN Γ (zB Γ n) body h (aY (Mr ps x) fn.ntmps) (RT T rs) (AhG P rs fn.results.toList)
 | false=>none
theorem AhH {Γ:List (CE T P I)} (ahw:J8 I) (ab5:P.follows .mixedOrders =true) {n:Nat} {f:FuncId} {fn:Func} {body:Code} (hf:P.funcs[f]? =some fn) (hb:fn.body=some body) (abr:PL.ent P f=true) {h:Hn} {ps rs:List VT} {x:XS T ps} {r:RT T rs}
 (hr:uq Γ n fn body h ps rs x=some r):Cd P I f (Gf ps x) (· =Ji rs r):=by
 unfold uq at hr;split at hr
 ·rename_i hl;obtain⟨H,hw⟩:=gU (args:=Mr ps x) (n:=fn.ntmps) (fun H=>aX ps x);refine Cd.of ahw abr hf hb fun F hI=>?_;rw [<-VA, <-Xo (by simp_all)];refine FI ab5 (j8 ab5 n) body h _ H _ _ r hw hr F _ hI fun H' e an n q=>?_;have fin:gV P an rs fn.results.toList _ some=some r->(DA P an.toSt fn.results.toList).1/\(DA P an.toSt fn.results.toList).2.pure =true/\(DA P an.toSt fn.results.toList).2=Ji rs r:=by intro q;obtain⟨v,⟨h1,h2⟩,h3⟩:=AfQ n.ok _ _ r q;grind [gW]
  cases e<;>simp only [AhG,tv]at q ⊢ <;>first
   | exact fin q
   | grind
 ·cases hr
def AjG (Γ:List (CE T P I)) (ahw:J8 I) (ab5:P.follows .mixedOrders =true) (n:Nat) (f:FuncId) (fn:Func) (body:Code) (h:Hn) (ps rs:List VT) (run:XS T ps->Option (RT T rs)) (hf:P.funcs[f]? =some fn) (hb:fn.body=some body)
    (heq:run=uq Γ n fn body h ps rs) (abr:PL.ent P f=true:=by kernel_rfl):CE T P I where
 f:=f
 ps:=ps
 rs:=rs
 run:=run
 ok:=fun x r q=>AhH (h:=h) ahw ab5 hf hb abr (by rw [<-heq];exact q)
end
end Go.PL
namespace Go.PL
theorem Ms {a b:Prop} (h:a=b) (p:a):b:=h▸p
end Go.PL
namespace Go.PL
open Go Go.RowKit
structure HC where
 den:Type
 inh:Inhabited den
 enc:den->List C
 ks:List Kd
def HC.unit:HC:=⟨Unit,⟨()⟩,fun _=>[],[]⟩
def S4:List (Nat×HC)->Nat->HC
 | [],_=> .unit
 | (k,r)::l,E=>match Nat.beq k E with
   | true=>r
   | false=>S4 l E
structure OH (R:Nat->HC) where
 E:Nat
 un:(R E).den ->DK (fun E=>(R E).den) (R E).ks
 bd:DK (fun E=>(R E).den) (R E).ks ->(R E).den
 beq:(R E).den ->(R E).den ->Bool
 afv: ∀ y,un (bd y)=y
 aa2: ∀ x,BG (fun E=>(R E).enc) (R E).ks (un x)=(R E).enc x
 ajc: ∀ x y,beq x y=BW ((R E).enc x) ((R E).enc y)
def nZ {R:Nat->HC}:List (OH R)->(E:Nat)->Option {e:OH R // e.E=E}
 | [],_=>none
 | e::l,E=>match Nat.decEq e.E E with
   | .isTrue h=>some ⟨e,h⟩
   | .isFalse _=>nZ l E
theorem FW {R:Nat->HC}: ∀ {L1:List (OH R)} {L0:List (Nat×HC)} {E:Nat},L1.map (·.E)=L0.map (·.1)->nZ L1 E=none->S4 L0 E= .unit
 | [],[],_,_,_=>rfl
 | [],_::_,_,h,_=>by simp at h
 | _::_,[],_,h,_=>by simp at h
 | e::L1,(k,r)::L0,E,h,hf=>by
   simp only [map_cons,List.cons.injEq]at h;unfold nZ at hf;split at hf
   ·cases hf
   ·rename_i Tj _;have:Nat.beq k E=false:=by
     cases hb:Nat.beq k E with
     | false=>rfl
     | true=>exact absurd (h.1.trans (eq_of_beq_eq_true hb)) Tj
    simp only [S4,this];exact FW h.2 hf
inductive ahf (R:Nat->HC) (E:Nat) where
 | some (e:OH R) (h:e.E=E)
 | none (h:R E=HC.unit)
def wN {R:Nat->HC} (L1:List (OH R)) (hn: ∀ E,nZ L1 E=none->R E= .unit) (E:Nat):ahf R E:=match h:nZ L1 E with
 | some e=> .some e.1 e.2
 | none=> .none (hn E h)
section
variable {R:Nat->HC} {E:Nat}
def ahf.un:ahf R E->(R E).den ->DK (fun E=>(R E).den) (R E).ks
 | .some e h=>h▸e.un
 | .none h=>fun _=>h▸(():DK (fun E=>(R E).den) HC.unit.ks)
def ahf.bd:ahf R E->DK (fun E=>(R E).den) (R E).ks ->(R E).den
 | .some e h=>h▸e.bd
 | .none h=>fun _=>h▸(():HC.unit.den)
def ahf.beq:ahf R E->(R E).den ->(R E).den ->Bool
 | .some e h=>h▸e.beq
 | .none _=>fun _ _=>true
theorem ahf.afv (s:ahf R E) (y:DK (fun E=>(R E).den) (R E).ks):s.un (s.bd y)=y:=by
 cases s with
 | some e h=>cases h;exact e.afv y
 | none h=>
   show h▸(():DK (fun E=>(R E).den) HC.unit.ks)=y;have: ∀ (D:Nat->Type) (r:HC) (h:r=HC.unit) (y:DK D r.ks),h▸(():DK D HC.unit.ks)=y:=by intro D r h y;subst h;rfl
   exact this _ _ h y
theorem ahf.aa2 (s:ahf R E) (x:(R E).den):BG (fun E=>(R E).enc) (R E).ks (s.un x)=(R E).enc x:=by
 cases s with
 | some e h=>cases h;exact e.aa2 x
 | none h=>
   have: ∀ (r:HC) (h:r=HC.unit) (x:r.den) (z:DK (fun E=>(R E).den) r.ks),BG (fun E=>(R E).enc) r.ks z=r.enc x:=by intro r h x z;subst h;rfl
   grind
theorem ahf.ajc (s:ahf R E) (x y:(R E).den):s.beq x y=BW ((R E).enc x) ((R E).enc y):=by
 cases s with
 | some e h=>cases h;exact e.ajc x y
 | none h=>
   show true=_;have: ∀ (r:HC) (h:r=HC.unit) (x y:r.den),true=BW (r.enc x) (r.enc y):=by intro r h x y;subst h;rfl
   grind
end
def AfR (L0:List (Nat×HC)) (L1:List (OH (S4 L0))) (hk:L1.map (·.E)=L0.map (·.1)):Bo where
 den E:=(S4 L0 E).den
 inh E:=(S4 L0 E).inh
 enc E:=(S4 L0 E).enc
 ks E:=(S4 L0 E).ks
 un E:=(wN L1 (fun _ h=>FW hk h) E).un
 bd E:=(wN L1 (fun _ h=>FW hk h) E).bd
 beq E:=(wN L1 (fun _ h=>FW hk h) E).beq
 afv E:=(wN L1 (fun _ h=>FW hk h) E).afv
 aa2 E:=(wN L1 (fun _ h=>FW hk h) E).aa2
 ajc E:=(wN L1 (fun _ h=>FW hk h) E).ajc
end Go.PL
