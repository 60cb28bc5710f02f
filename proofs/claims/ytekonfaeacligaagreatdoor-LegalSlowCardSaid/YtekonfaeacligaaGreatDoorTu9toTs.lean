/- The pure logic: Tu9, Tua, Tub, Tuc, Tx, Tud, Tp, Tw, PlYi, Tz, Tw2, Tq, Tr, Ts. -/
import Derived.Test.YtekonfaeacligaaGreatDoorPlYftoTu8
import Derived.Test.YtekonfaeacligaaGreatDoorPlPhtoPlYe
open List (mem_map mem_filter map_cons all_eq_true mem_cons nodup_cons mem_range any_eq_true map_append mem_singleton all_cons filter_sublist getElem?_set map_nil map_map)
open Bool (and_eq_true not_eq_true' or_eq_true or_eq_false_iff)
open Nat (beq_eq lt_of_lt_of_le le_trans eq_of_beq_eq_true le_refl blt_eq zero_add le_succ mul_one ble_eq)
open Option.some (injEq)
open Option (bind_eq_some_iff)
set_option linter.all false
set_option linter.all false
namespace Go.PL
open Go Go.RowKit
variable {T:AX}
def SL {P:Program} {I:World->Prop} (f:FuncId):List (CE T P I)->Option TypeId
 | []=>none
 | e::r=>match Nat.beq e.f f,e.ins with
   | true,some E=>some E
   | _,_=>SL f r
theorem Ou {P:Program} {I:World->Prop} {f:FuncId} {E:TypeId}: ∀ {l:List (CE T P I)},SL f l=some E->lU P f E
 | [],h=>by cases h
 | e::r,h=>by
   unfold SL at h;split at h
   ·rename_i E' hb hE;injection h with h;subst h;rw [<-eq_of_beq_eq_true hb];exact e.alf _ hE
   ·exact Ou h
def rK (st:Ac T) (r:Ad) (E:Nat) (l m:List (T.den E)) (i:Int) (d:Nat):M (Ac T):=
 .opt (DG (0<=i/\i<=(l.length:Nat)/\0<m.length/\(l.length+m.length)*8<=140737488355328)) fun _=>
  match st.new r (.row E (l.take i.toNat++(m++l.drop i.toNat)))with
  | some s=> .ret (s.put (some d) (.c (.c (.l_ r))))
  | none=> .no
theorem rL {H:Aq T} {P:Program} {I:World->Prop} {st:Ac T} (hw:Ay H st) {o:Oper} {f:FuncId} {x y z:Operand} {d:Nat} {r rv:Ad} {E:Nat} {l m:List (T.den E)} {i:Int} (hk:BC o.op= .call f [x,y,z]) (hd:o.dst=some d) (g1:PL.ent P f=true) (hp:lU P f E) (g4:T.sz E=1) (n_:r ≠ rv)
 (hx:st.arg [] x=some (.c (.c (.l_ r)))) (hy:st.arg [] y=some (.c (.k (.int .i64) i))) (hz:st.arg [] z=some (.c (.c (.l_ rv)))) (hr:CI st r=some ⟨E,l⟩) (hrv:CI st rv=some ⟨E,m⟩):
 Yl (rK st r E l m i d) (fun an=>(∃ H',Nx H st H' an)/\an.pre=st.pre/\ ∀ K:St->Prop,K an.toSt->El P I o st.toSt K):=by
 unfold rK;refine Yl.opt fun u hn=>?_;have hn:=BK hn;split
 ·rename_i s hs;obtain⟨⟨H1,n1⟩,l1,p1⟩:=Ac.aaK hw (show (DX.row E _:DX T).ok from trivial) hs;obtain⟨H2,n2⟩:=Ac.r_ n1 (some d) (v:= .c (.c (.l_ r))) (by simp only [DV.ok,DC.ok]);refine Yl.ret ⟨⟨H2,n2⟩,by rw [AH];exact p1,fun K hK=>?_⟩;obtain⟨_,a2,a3⟩:=E3 hw hx;obtain⟨_,b2,b3⟩:=E3 hw hy;obtain⟨_,c2,c3⟩:=E3 hw hz;obtain⟨h1,_,_⟩:=Bg hr;obtain⟨h2,_,_⟩:=Bg hrv;rw [g4]at h1 h2;have hlen: ∀ l:List (T.den E),(l.flatMap (T.enc E)).length =l.length:=fun l=>by rw [U5 (fun y=>AG E y),g4,mul_one]
  have ht: ∀ (l:List (T.den E)) (j:Nat),(l.flatMap (T.enc E)).take j=(l.take j).flatMap (T.enc E):=fun l j=>by have:=EW (fun y=>AG E y) l j;grind
  have hdp: ∀ (l:List (T.den E)) (j:Nat),(l.flatMap (T.enc E)).drop j=(l.drop j).flatMap (T.enc E):=fun l j=>by have:=Gw (fun y=>AG E y) l j;grind
  have hE:(⟨r,0, .row E (l.take i.toNat++(m++l.drop i.toNat))⟩:DE T).toE =⟨r,some (E,1,l.length+m.length),(l.flatMap (T.enc E)).take i.toNat++m.flatMap (T.enc E)++(l.flatMap (T.enc E)).drop i.toNat,true⟩:=by show (⟨r,some (E,T.sz E,(l.take i.toNat++(m++l.drop i.toNat)).length),(l.take i.toNat++(m++l.drop i.toNat)).flatMap (T.enc E),true⟩:Ar)=_;grind
  refine El.ins (K:=K) hk g1 hp (fun Fr a w G hR=>?_) (fun Fr a w G hR=>?_) (fun Fr a w G hR=>?_) h1 h2 n_ ⟨hn.1,hn.2.1⟩ hn.2.2.1 hn.2.2.2 (by rw [<-hE];exact l1) (by grind [Ac.d_,DV.toV,DC.toC])
  ·have:=hR.arg rfl a2;grind [DV.toV,DC.toC]
  ·have:=hR.arg rfl b2;grind [DV.toV,DC.toC,AW]
  ·have:=hR.arg rfl c2;simp_all [DV.toV,DC.toC]
 ·exact Yl.no
def zX {P:Program} {I:World->Prop} (Γ:List (CE T P I)) (o:Oper) (st:Ac T):M (Ac T):=match BC o.op,o.dst with
 | .call f [x,y,z],some d=>match st.arg [] x,st.arg [] y,st.arg [] z,SL f Γ with
   | some (.c (.c (.l_ r))),some (.c (.k (.int .i64) i)),some (.c (.c (.l_ rv))),some E0=>match CI st r,CI st rv with
     | some ⟨E,l⟩,some ⟨E',m'⟩=>match UZ E E' m' with
       | some m=>A_ ((PL.ent P f&& !AP r rv)&&(Nat.beq E0 E&&Nat.beq (T.sz E) 1)) (rK st r E l m i d)
       | none=> .no
     | _,_=> .no
   | _,_,_,_=> .no
 | _,_=> .no
theorem ww {H:Aq T} {P:Program} {I:World->Prop} {Γ:List (CE T P I)} {st:Ac T} (hw:Ay H st) {o:Oper}:Yl (zX Γ o st) (fun an=>(∃ H',Nx H st H' an)/\an.pre=st.pre/\ ∀ K:St->Prop,K an.toSt->El P I o st.toSt K):=by
 unfold zX;split
 ·rename_i f x y z d hk hd;split
  ·rename_i r i rv E0 hx hy hz hp;split
   ·rename_i E l E' m' hr hrv;split
    ·rename_i m hm;refine Yl.A_ fun hg=>?_;simp only [and_eq_true,beq_eq,not_eq_true']at hg;obtain⟨⟨g1,g2⟩,g3,g4⟩:=hg;subst g3;obtain⟨e,hme⟩:=Hk hm;subst e;subst hme;exact rL hw hk hd g1 (Ou hp) g4 (fun q=>by rw [AE.2 q]at g2;cases g2) hx hy hz hr hrv
    ·exact Yl.no
   ·exact Yl.no
  ·exact Yl.no
 ·exact Yl.no
end Go.PL
set_option linter.all false
namespace Go.PL
open Go Go.RowKit
variable {T:AX}
def zY (P:Program) (o:Oper) (st:Ac T):M (Ac T):=match o.op with
 | .load t x=>match o.dst,st.arg [] x,FW P t with
   | some d,some (.c (.rp id N i off)),some (false,1)=>match G9 st id with
     | some ⟨E,(nn,l,none)⟩=>A_ (DF id&&Nat.beq N (T.sz E)) (.opt (idx l i) fun x=> .opt (DG (i<nn)) fun _=>match Es (T.ks E) (T.un E x) off with
       | some ⟨_,_⟩=> .ret (st.put (some d) (.c (.c (.l_ (1000007::(i.toNat*T.sz E+off)::id)))))
       | none=> .no)
     | _=> .no
   | _,_,_=> .no
 | _=> .no
def zZ (P:Program) (o:Oper) (st:Ac T):M (Ac T):=match o.op with
 | .indexAddr t x y=>match o.dst,st.arg [] x,st.arg [] y,Ck P t with
   | some d,some (.c (.c (.l_ (m::k::id)))),some (.c (.k (.int _) j)),some (_,n')=>match G9 st id with
     | some ⟨E,(nn,l,none)⟩=>A_ (DF id&&(Nat.beq m 1000007&&Nat.beq (T.sz E) 1)) (.opt (idx l (k:Int)) fun x=> .opt (DG ((k:Int)<nn)) fun _=>match Es (T.ks E) (T.un E x) 0 with
       | some ⟨F,y⟩=>A_ (Nat.beq n' (T.sz F)) (.opt (idx y j) fun _=> .ret (st.put (some d) (.c (.c (.ptr (m::k::id) (j.toNat*n'))))))
       | none=> .no)
     | _=> .no
   | _,_,_,_=> .no
 | _=> .no
def z5 (P:Program) (o:Oper) (st:Ac T):M (Ac T):=match o.op with
 | .store t x y=>match o.dst,st.arg [] x,st.arg [] y,FW P t with
   | none,some (.c (.c (.ptr (m::k::id) off))),some (.c c),some (false,1)=>match G9 st id with
     | some ⟨E,(nn,l,none)⟩=>A_ (DF id&&(Nat.beq m 1000007&&Nat.beq (T.sz E) 1)) (.opt (idx l (k:Int)) fun x=> .opt (DG ((k:Int)<nn)) fun _=>match Es (T.ks E) (T.un E x) 0 with
       | some ⟨F,y⟩=>A_ (Nat.beq (T.sz F) 1) (.opt (idx y (off:Int)) fun v=>match Hm c (T.ks F) (T.un F v) 0 with
         | some z=>match Et F (y.set off (T.bd F z)) (T.ks E) (T.un E x) 0 with
           | some x'=> .ret (st.aaf id (.deep E nn (l.set k (T.bd E x')) none))
           | none=> .no
         | none=> .no)
       | none=> .no)
     | _=> .no
   | _,_,_,_=> .no
 | _=> .no
section
variable {H:Aq T} {P:Program} {I:World->Prop} {st:Ac T}
theorem Qk {E:Nat} {nn:Int} {l:List (T.den E)} {k off:Nat} {x:T.den E} (hx:l[k]? =some x) (hn:(k:Int)<nn) {F:Nat} {y:List (T.den F)} (hy:Es (T.ks E) (T.un E x) off=some ⟨F,y⟩):
 (Av T E nn 0 l)[k*T.sz E+off]? =some (.isl F (T.sz F) y.length (y.flatMap (T.enc F))):=by
 obtain⟨hc,aaC⟩:=Li hy;rw [Hc hx aaC,if_pos (by omega)];exact hc
theorem wx (hw:Ay H st) {o:Oper}:Yl (zY P o st) (fun an=>(∃ H',Nx H st H' an)/\an.pre=st.pre/\ ∀ K:St->Prop,K an.toSt->El P I o st.toSt K):=by
 unfold zY;split
 ·rename_i t x hop;split
  ·rename_i d id N i off hd hx ht;split
   ·rename_i E nn l hdr;refine Yl.A_ fun hg=>Yl.opt fun xx hxx=>Yl.opt fun u hu=>?_;simp only [and_eq_true,beq_eq]at hg;obtain⟨g1,g2⟩:=hg;subst g2;split
    ·rename_i F y hy;have hin:=BK hu;obtain⟨i0,i1,hxi⟩:=Gb hxx;obtain⟨a1,a2,a3⟩:=E3 hw hx;obtain⟨hmk,hlr,e,he1,he2,he3⟩:=Br hdr;have hE:e.toE=⟨id,some (E,T.sz E,l.length),Av T E nn 0 l,true⟩:=by unfold DE.toE;rw [he3,he2];rfl
     obtain⟨H4,n4⟩:=Ac.O_ hw (some d) (v:= .c (.c (.l_ (1000007::(i.toNat*T.sz E+off)::id)))) (by simp only [DV.ok,DC.ok]);refine Yl.ret ⟨⟨H4,n4⟩,AH _ _ _,fun K hK Fr a w G Q hI hR=>?_⟩;have hL:st.toSt.u_ id=some e.toE:=hR.v_ (mem_map.2 ⟨e,he1,rfl⟩) (by rw [hE]) g1;have hk:e.toE.cs[i.toNat*T.sz E+off]? =some (.isl F (T.sz F) y.length (y.flatMap (T.enc F))):=by grind [Qk]
     have H_:=hR.arg rfl a2;rw [a3]at H_;simp only [DV.toV,DC.toC,Aa,Ab]at H_;obtain⟨b,hb1,hv⟩:=H_;obtain⟨_,hRE,b2,v,k3,k4,k5⟩:=hR.inner hL hk;rw [hb1]at k3;injection k3 with k3;subst k3;obtain⟨dd,ti,hu',Y_,_⟩:=Bw ht;have aa3:v.oneCell'=true:=by unfold AN at hRE;obtain⟨_,v2,c2,c3⟩:=hRE;rw [show (⟨Bi (i.toNat*T.sz E+off) id,some (F,T.sz F,y.length),y.flatMap (T.enc F),true⟩:Ar).id =Bi (i.toNat*T.sz E+off) id from rfl,k5]at c2;injection c2 with c2;subst c2;rcases c3 with ⟨p,rfl,_⟩ | ⟨b',cap,cur,rfl,_⟩<;>rfl
     have h_:(execOp a.eval o).run P w= .ok (.value v) w:=by simp_all [execOp,Cv]
     refine Au h_ ⟨_,G,hK,?_⟩;rw [Ac.d_,hd];exact hR.put (by simp only [DV.toV,DC.toC,Aa,Ab];exact⟨k5,aa3⟩)
    ·exact Yl.no
   ·exact Yl.no
  ·exact Yl.no
 ·exact Yl.no
theorem wy (hw:Ay H st) {o:Oper}:Yl (zZ P o st) (fun an=>(∃ H',Nx H st H' an)/\an.pre=st.pre/\ ∀ K:St->Prop,K an.toSt->El P I o st.toSt K):=by
 unfold zZ;split
 ·rename_i t x y hop;split
  ·rename_i d m k id ki j E' n' hd hx hy ht;split
   ·rename_i E nn l hdr;refine Yl.A_ fun hg=>Yl.opt fun xx hxx=>Yl.opt fun u hu=>?_;simp only [and_eq_true,beq_eq]at hg;obtain⟨g1,g2,g3⟩:=hg;subst g2;split
    ·rename_i F r hr;refine Yl.A_ fun hg'=>Yl.opt fun z hz=>?_;have g4:n'=T.sz F:=by simp_all
     subst g4;have hin:=BK hu;obtain⟨i0,i1,hxi⟩:=Gb hxx;obtain⟨j0,j1,_⟩:=Gb hz;obtain⟨a1,a2,a3⟩:=E3 hw hx;obtain⟨b1,b2,b3⟩:=E3 hw hy;obtain⟨hmk,hlr,e,he1,he2,he3⟩:=Br hdr;have hE:e.toE=⟨id,some (E,T.sz E,l.length),Av T E nn 0 l,true⟩:=by unfold DE.toE;rw [he3,he2];rfl
     obtain⟨H4,n4⟩:=Ac.O_ hw (some d) (v:= .c (.c (.ptr (1000007::k::id) (j.toNat*T.sz F)))) (by simp only [DV.ok,DC.ok]);refine Yl.ret ⟨⟨H4,n4⟩,AH _ _ _,fun K hK Fr a w G Q hI hR=>?_⟩;have hL:st.toSt.u_ id=some e.toE:=hR.v_ (mem_map.2 ⟨e,he1,rfl⟩) (by rw [hE]) g1;have hk:e.toE.cs[k]? =some (.isl F (T.sz F) r.length (r.flatMap (T.enc F))):=by rw [hE];have:=Qk (nn:=nn) (k:=k) (off:=0) (by simpa using hxi) hin hr;grind
     have H_:=hR.arg rfl a2;have hyv:=hR.arg rfl b2;rw [a3]at H_;rw [b3]at hyv;simp only [DV.toV,DC.toC,AW,Aa,Ab]at H_ hyv;obtain⟨_,hRE,_⟩:=hR.inner hL hk;unfold AN at hRE;obtain⟨_,v2,c2,c3⟩:=hRE;rw [show (⟨Bi k id,some (F,T.sz F,r.length),r.flatMap (T.enc F),true⟩:Ar).id =Bi k id from rfl,show Bi k id=1000007::k::id from rfl,H_.1]at c2;injection c2 with c2;rcases c3 with ⟨p,_,c4,_⟩ | ⟨b',cap,cur,c3,e2,_⟩
     ·omega
     ·have h_:(execOp a.eval o).run P w= .ok (.value (.pointer (some ⟨b',0+j.toNat*T.sz F,none⟩))) w:=by simp [execOp,hop,hyv,c2,c3,CD ht b' 0 r.length cap ki j j0 j1 w]
      refine Au h_ ⟨_,G,hK,?_⟩;rw [Ac.d_,hd];exact hR.put (by simp only [DV.toV,DC.toC,Aa,Ab];exact⟨b',e2,by grind⟩)
    ·exact Yl.no
   ·exact Yl.no
  ·exact Yl.no
 ·exact Yl.no
theorem eG {F:Nat} {c:C} {v':T.den F} (hs:T.sz F=1) (hv:T.enc F v'=[c]): ∀ {y:List (T.den F)} {off:Nat},off<y.length->(y.set off v').flatMap (T.enc F)=(y.flatMap (T.enc F)).take off++[c]++(y.flatMap (T.enc F)).drop (off+1)
 | [],_,h=>by simp at h
 | a::y,0,_=>by grind [AG]
 | a::y,off+1,h=>by
   have ha:(T.enc F a).length =1:=by rw [AG,hs]
   obtain⟨q,hq⟩: ∃ q,T.enc F a=[q]:=List.length_eq_one_iff.1 ha;have:=eG hs hv (y:=y) (off:=off) (by simpa using h);simp [hq,this]
theorem wz (hw:Ay H st) {o:Oper}:Yl (z5 P o st) (fun an=>(∃ H',Nx H st H' an)/\an.pre=st.pre/\ ∀ K:St->Prop,K an.toSt->El P I o st.toSt K):=by
 unfold z5;split
 ·rename_i t x y hop;split
  ·rename_i m k id off c hd hx hy ht;split
   ·rename_i E nn l hdr;refine Yl.A_ fun hg=>Yl.opt fun xx hxx=>Yl.opt fun u hu=>?_;simp only [and_eq_true,beq_eq]at hg;obtain⟨g1,g2,g3⟩:=hg;subst g2;split
    ·rename_i F r hr;refine Yl.A_ fun hg'=>Yl.opt fun v hv0=>?_;have g4:T.sz F=1:=by simp_all
     split
     ·rename_i z hz;split
      ·rename_i x' hx';have hin:=BK hu;obtain⟨i0,i1,hxi⟩:=Gb hxx;obtain⟨j0,j1,hvi⟩:=Gb hv0;simp only [Int.toNat_natCast]at hxi hvi;have hkl:k<l.length:=by omega
       have hol:off<r.length:=by omega
       obtain⟨a1,a2,a3⟩:=E3 hw hx;obtain⟨b1,b2,b3⟩:=E3 hw hy;obtain⟨hmk,hlr,e,he1,he2,he3⟩:=Br hdr;obtain⟨z1,z2,_,z3,z4⟩:=Lj hz;obtain⟨w1,w2⟩:=JJ hx';have hE:e.toE=⟨id,some (E,T.sz E,l.length),Av T E nn 0 l,true⟩:=by unfold DE.toE;rw [he3,he2];rfl
       have hk:e.toE.cs[k]? =some (.isl F (T.sz F) r.length (r.flatMap (T.enc F))):=by rw [hE];have:=Qk (nn:=nn) (k:=k) (off:=0) hxi hin hr;grind
       have hv':T.enc F (T.bd F z)=[c.toC]:=by
        have hl1:(Bd T.enc (T.ks F) (T.un F v)).length =1:=by have:=AG F v;rw [<-T.V_,g4]at this;exact this
        obtain⟨q,hq⟩:=List.length_eq_one_iff.1 hl1;rw [<-T.V_,T.ab7,z2,hq];rfl
       have hfl:=eG g4 hv' hol;have aeS:T.Z_ E (T.bd E x')=(T.Z_ E xx).set 0 (.isl F (T.sz F) r.length ((r.flatMap (T.enc F)).take off++[c.toC]++(r.flatMap (T.enc F)).drop (off+[c.toC].length))):=by rw [AX.Z_,T.ab7,w1];rw [List.length_set,hfl];rfl
       have ac8:=NB (n:=nn) (k:=0) (x':=T.bd E x') (p:=0) hxi (by omega) aeS (by omega);obtain⟨H2,n2⟩:=Ac.aab hw id (x:= .deep E nn (l.set k (T.bd E x')) none) trivial;refine Yl.ret ⟨⟨H2,n2⟩,rfl,fun K hK Fr a w G Q hI hR=>?_⟩;have hm:e.toE∈st.toSt.so:=mem_map.2 ⟨e,he1,rfl⟩;have hL:st.toSt.u_ id=some e.toE:=hR.v_ hm (by rw [hE]) g1;have H_:=hR.arg rfl a2;rw [a3]at H_;simp only [DV.toV,DC.toC,Aa,Ab]at H_;obtain⟨b,hb1,hv⟩:=H_;have hyv:=hR.arg rfl b2;rw [b3]at hyv;simp only [DV.toV,Aa]at hyv;have aa3:=hyv.one;have hcl:(a.eval y).cells.toList =[a.eval y]:=by cases hq:a.eval y<;>rw [hq]at aa3<;>first | rfl | cases aa3
       have hc:Ae w G [c.toC] (a.eval y).cells.toList :=by rw [hcl];exact⟨hyv,trivial⟩
       have auo:(r.flatMap (T.enc F)).length =r.length:=by rw [DI (fun y=>AG F y),g4,mul_one]
       obtain⟨cur,T',c1,c2,c3⟩:=hR.ac2 hL hk (b:=b) hb1 (off:=off) hc (by grind) (by simp [Al,z3]);have hs:=Db (P:=P) ht c1 (by grind) c2 (Ae.one hc);generalize w.setRow b _=w1 at hs c3;have h_:(execOp a.eval o).run P w= .ok .skip w1:=by simp_all [execOp]
       refine DY h_ ?_;rw [hd];refine⟨_,G,hK,c3.less ?_⟩;refine H5 (Gz.refl _) (Gz.refl _) ?_ (DR n2.ok) rfl;intro u hu;obtain⟨e3,h1,rfl⟩:=mem_map.1 hu;rcases aaz hw.nd h1 with ⟨h1,h2⟩ | h1
       ·exact mem_map.2 ⟨e3.toE,mem_map.2 ⟨e3,h1,rfl⟩,(by grind [C2,DE.toE_id])⟩
       ·subst h1;refine mem_map.2 ⟨e.toE,hm,?_⟩;rw [C3 (by rw [hE])];show _=(⟨id,some (E,T.sz E,(l.set k (T.bd E x')).length),Av T E nn 0 (l.set k (T.bd E x')),true⟩:Ar);grind
      ·exact Yl.no
     ·exact Yl.no
    ·exact Yl.no
   ·exact Yl.no
  ·exact Yl.no
 ·exact Yl.no
end
end Go.PL
set_option linter.all false
namespace Go.PL
open Go Go.RowKit
variable {T:AX}
def mkF {den:Nat->Type}:(ks:List Kd)->Option (Int->DK den ks)
 | [.int .u8]=>some fun n=>(n,())
 | _=>none
theorem rM {den:Nat->Type} {enc: ∀ E,den E->List C}: ∀ {ks:List Kd} {f:Int->DK den ks},mkF ks=some f-> ∀ n,Bd enc ks (f n)=[.int .u8 n]
 | [.int .u8],f,h,n=>by injection h with h;subst h;rfl
def dby (P:Program) (o:Oper) (st:Ac T):M (Ac T):=match o.op with
 | .convert src dst x=>match st.ev x,dD P dst,Cb P src with
   | .c (.k .str s),some E,true=>match mkF (den:=T.den) (T.ks E)with
     | some f=> .opt (DG (s.length<=140737488355328)) fun _=> .ret (st.put o.dst (.c (.k (.w_ E) (s.map fun b=>T.bd E (f (b.toNat:Int))))))
     | none=> .no
   | _,_,_=> .no
 | _=> .no
theorem z6 {H:Aq T} {P:Program} {I:World->Prop} {st:Ac T} (hw:Ay H st) {o:Oper}:Yl (dby P o st) (fun an=>(∃ H',Nx H st H' an)/\an.pre=st.pre/\ ∀ K:St->Prop,K an.toSt->El P I o st.toSt K):=by
 unfold dby
 split
 ·rename_i src dst x hop;split
  ·rename_i s E hev hb hs;split
   ·rename_i f hf;refine Yl.opt fun u hu=>?_;obtain⟨H4,n4⟩:=Ac.O_ hw o.dst (v:= .c (.k (.w_ E) (s.map fun b=>T.bd E (f (b.toNat:Int))))) (by simp only [DV.ok,DC.ok]);refine Yl.ret ⟨⟨H4,n4⟩,AH _ _ _,fun K hK=>?_⟩;have ada:=st.aat x;rw [hev]at ada;have he: ∀ n,T.enc E (T.bd E (f n))=[.int .u8 n]:=fun n=>by rw [<-T.V_,T.ab7];exact rM hf n
    have hv:(DV.c (.k (.w_ E) (s.map fun b=>T.bd E (f (b.toNat:Int)))):DV T).toV =vL (eI .u8) (G5 s):=by
     have hfl: ∀ s:List UInt8,(s.map fun b=>T.bd E (f (b.toNat:Int))).flatMap (T.enc E)=(G5 s).flatMap (eI .u8):=fun s=>by
      induction s with
      | nil=>rfl
      | cons b s ih=>
        simp only [G5,map_cons,List.flatMap_cons]at ih ⊢;rw [ih,he];rfl
     have hln: ∀ s:List UInt8,(s.map fun b=>T.bd E (f (b.toNat:Int))).length =(G5 s).length :=fun s=>by simp [G5]
     exact congr (congrArg (fun n l=>V.c (C.sl n l)) (hln s)) (hfl s)
    rw [Ac.d_,hv]at hK;exact El.bytes E s hop (BK hu) hK (by rw [ada];rfl) hs hb
   ·exact Yl.no
  ·exact Yl.no
 ·exact Yl.no
end Go.PL
set_option linter.all false
namespace Go.PL
open Go Go.RowKit
variable {T:AX}
def Ov {P:Program} {I:World->Prop} (g:Nat):List (CE T P I)->Option (List (List UInt8))
 | []=>none
 | e::r=>match e.tab with
   | some (g',t)=>match Nat.beq g' g with
     | true=>some t
     | false=>Ov g r
   | none=>Ov g r
theorem NE {P:Program} {I:World->Prop} {g:Nat} {t:List (List UInt8)}: ∀ {l:List (CE T P I)},Ov g l=some t->ZS I g t
 | [],h=>nomatch h
 | e::r,h=>by
   unfold Ov at h;split at h
   ·rename_i g' t' he;split at h
    ·rename_i hb;injection h with h;subst h;have:=eq_of_beq_eq_true hb;subst this;exact e.akG _ _ he
    ·exact NE h
   ·exact NE h
def yE (i:Int) (n:Nat):Option Unit:=DG (0<=i/\i<((n:Nat):Int))
theorem wA {i:Int} {n:Nat} {u:Unit} (h:yE i n=some u):0<=i/\i<((n:Nat):Int):=BK h
def dga (P:Program) (o:Oper) (st:Ac T):M (Ac T):=match o.op with
 | .indexAddr t (.global g) x=>match st.ev x,C6 P t with
   | .c (.k (.int _) i),some (n,_,1)=> .opt (yE i n) fun _=> .ret (st.put o.dst (.c (.c (.acE g (Int.toNat i)))))
   | _,_=> .no
 | _=> .no
def dgl {P:Program} {I:World->Prop} (Γ:List (CE T P I)) (o:Oper) (st:Ac T):M (Ac T):=match o.op with
 | .load t x=>match st.ev x,FW P t with
   | .c (.c (.acE g off)),some (false,1)=>match Ov g Γ with
     | some tab=> .opt (DG (off<tab.length)) fun _=> .ret (st.put o.dst (.c (.k .str (tab.getD off []))))
     | none=> .no
   | _,_=> .no
 | _=> .no
theorem z7 {H:Aq T} {P:Program} {I:World->Prop} {st:Ac T} (hw:Ay H st) {o:Oper}:Yl (dga P o st) (fun an=>(∃ H',Nx H st H' an)/\an.pre=st.pre/\ ∀ K:St->Prop,K an.toSt->El P I o st.toSt K):=by
 unfold dga;split
 ·rename_i t g x hop;split
  ·rename_i k i n E hev ht;refine Yl.opt fun u hu=>?_;obtain⟨H4,n4⟩:=Ac.O_ hw o.dst (v:= .c (.c (.acE g (Int.toNat i)))) (by simp only [DV.ok,DC.ok]);refine Yl.ret ⟨⟨H4,n4⟩,AH _ _ _,fun K hK=>?_⟩;have ada:=st.aat x;rw [hev]at ada;rw [Ac.d_]at hK;exact El.aml hop (wA hu) hK (by rw [ada];rfl) ht
  ·exact Yl.no
 ·exact Yl.no
theorem z8 {H:Aq T} {P:Program} {I:World->Prop} {Γ:List (CE T P I)} {st:Ac T} (hw:Ay H st) {o:Oper}:Yl (dgl Γ o st) (fun an=>(∃ H',Nx H st H' an)/\an.pre=st.pre/\ ∀ K:St->Prop,K an.toSt->El P I o st.toSt K):=by
 unfold dgl;split
 ·rename_i t x hop;split
  ·rename_i g off hev ht;split
   ·rename_i tab an1;refine Yl.opt fun u hu=>?_;obtain⟨H4,n4⟩:=Ac.O_ hw o.dst (v:= .c (.k .str (tab.getD off []))) (by simp only [DV.ok,DC.ok]);refine Yl.ret ⟨⟨H4,n4⟩,AH _ _ _,fun K hK=>?_⟩;have ada:=st.aat x;rw [hev]at ada;rw [Ac.d_]at hK;exact El.amk hop (NE an1) (BK hu) hK (by rw [ada];rfl) ht
   ·exact Yl.no
  ·exact Yl.no
 ·exact Yl.no
end Go.PL
set_option linter.all false
namespace Go.PL
open Go Go.RowKit
variable {T:AX}
def Yx (st:Ac T) (E:Nat):Nat->List (DC T)->Option (List (T.den E)×List Ad)
 | 0,[]=>some ([],[])
 | 0,_::_=>none
 | n+1,cs=>match Oq st (T.ks E) (cs.take (T.sz E)),Yx st E n (cs.drop (T.sz E))with
   | some (z,rs),some (l,rs')=>some (T.bd E z::l,rs++rs')
   | _,_=>none
structure AeM (st:Ac T) (E:Nat) (cs:List (DC T)) (l:List (T.den E)) (rs:List Ad) (b:Nat) (ars:List AR):Prop where
 ids:ars.map (·.r)=rs
 len:cs.length=l.length*T.sz E
 at_: ∀ x∈ars,st.toSt.look x.r=some x.ent/\b<=x.k/\x.k<b+cs.length/\(Ap cs)[x.k - b]? =some (.l_ x.r)
 ae9: ∀ pre post:List C,pre.length=b->FZ (pre++((Ap cs).map Kw++post)) ars=pre++(l.flatMap (T.Z_ E)++post)
 pure:Al ((Ap cs).map Kw)=true
 noi:((Ap cs).map Kw).all hZ=true
theorem jm (cs:List (DC T)) (n:Nat):Ap cs=Ap (cs.take n)++Ap (cs.drop n):=by grind [BT,List.take_append_drop]
theorem aq (l:List C) (a b:List AR):FZ l (a++b)=FZ (FZ l a) b:=by grind [FZ]
theorem Vc {st:Ac T} {E:Nat}: ∀ {n:Nat} {cs:List (DC T)} {l:List (T.den E)} {rs:List Ad},Yx st E n cs=some (l,rs)-> ∀ b:Nat, ∃ ars,AeM st E cs l rs b ars/\l.length=n
 | 0,[],l,rs,h,b=>by simp only [Yx,injEq]at h;injection h with h1 h2;subst h1 h2;exact⟨[],⟨rfl,by simp,(by grind),(fun pre post _=>rfl),rfl,rfl⟩,rfl⟩
 | 0,_::_,_,_,h,_=>by simp [Yx]at h
 | n+1,cs,l,rs,h,b=>by
   unfold Yx at h;split at h
   ·rename_i z rs1 l' rs' h1 h2;injection h with h;injection h with e1 e2;subst e1 e2;obtain⟨a1,ha⟩:=GD h1 b;obtain⟨a2,hb,hl⟩:=Vc h2 (b+T.sz E);have hlen:(cs.take (T.sz E)).length =T.sz E:=ha.len;have hle:T.sz E<=cs.length:=by grind
    have hd:(cs.drop (T.sz E)).length =cs.length - T.sz E:=List.length_drop;have htl:(Ap (cs.take (T.sz E))).length =T.sz E:=by rw [AC,hlen]
    have hsp:=jm cs (T.sz E);have hdz:Bj T (T.ks E) z=T.Z_ E (T.bd E z):=by rw [AX.Z_,T.ab7]
    refine⟨a1++a2,⟨by rw [map_append,ha.ids,hb.ids],?_,fun x hx=>?_,fun pre post hp=>?_,?_,?_⟩,by simp [hl]⟩
    ·have:=hb.len;simp_all [Nat.add_mul]
    ·rcases List.mem_append.1 hx with hx | hx
     ·obtain⟨p1,p2,p3,p4⟩:=ha.at_ x hx;grind
     ·obtain⟨p1,p2,p3,p4⟩:=hb.at_ x hx;grind
    ·rw [hsp,map_append,List.append_assoc,aq,ha.ae9 pre _ hp,hdz];have:=hb.ae9 (pre++T.Z_ E (T.bd E z)) post (by grind [Df]);grind
    ·rw [hsp,map_append,Bl,ha.pure,hb.pure];rfl
    ·rw [hsp,map_append,List.all_append,ha.noi,hb.noi];rfl
   ·cases h
theorem FI {E:Nat} {n:Int}: ∀ {l:List (T.den E)} {k:Int},k+l.length<=n->Av T E n k l=l.flatMap (T.Z_ E)
 | [],_,_=>rfl
 | x::l,k,h=>by simp only [List.length_cons]at h;rw [Av,if_pos (by omega),FI (by omega),List.flatMap_cons]
def Vd (rs:List Ad) (r i:Ad):Bool:=match AP i r with
 | true=>true
 | false=>match AP i (1000003::r)with
   | true=>true
   | false=>Qi rs (1000003::r) i
theorem Ll {rs:List Ad} {r i:Ad} (h:Vd rs r i=false):i ≠ r/\i ≠ 1000003::r/\Qi rs (1000003::r) i=false/\C4 (1000003::r) i=false:=by
 unfold Vd at h;split at h
 ·cases h
 ·rename_i h1;split at h
  ·cases h
  ·rename_i h2;refine⟨(by grind [AE]),(by grind [AE]),h,?_⟩;have: ∀ rs:List Ad,Qi rs (1000003::r) i=false->C4 (1000003::r) i=false:=by intro rs;induction rs<;>grind [Qi,HZ]
   grind
def dsb (P:Program) (o:Oper) (st:Ac T):M (Ac T):=match o.op,o.dst with
 | .buildSlice t len ps,some d=>match Cw P t,EZ st [] ps.toList with
   | some (E,n,_),some vs=>match Nn P E with
     | some z=>match Rn (fun i=>some (i*n,n)) ((List.replicate len z).flatMap id) (vs.map fun x=>(x.1,P2 x.2))with
       | some cs=>match Yx st E len cs with
         | some (l,rs)=>A_ ((Nat.beq n (T.sz E)&&(Nat.beq z.length n&&(Nat.blt 0 n&&Nat.ble (len*n) (2 ^ 24))))&&(Nat.blt 0 len&&(Jz rs&&(!Ns rs (d::st.pre)&&(!DF (d::st.pre)&& !Cf (d::st.pre))))))
          (.ret ((AY [(1000003::d::st.pre, .deep E (l.length:Nat) l none)] (st.aaQ (Vd rs (d::st.pre)))).put (some d) (.c (.c (.l_ (1000003::d::st.pre))))))
         | none=> .no
       | none=> .no
     | none=> .no
   | _,_=> .no
 | _,_=> .no
theorem Lm {p q:Ad->Bool} (h: ∀ i,q i=true->p i=true) {v:V} (hv:v.c_ p=false):A9 q v=v:=by unfold A9;rw [if_neg (by rw [D1 h v hv];simp)]
theorem aw {p:Ad->Bool} {r:Ad} (hr:p r=true) {v:V} (hv:v.c_ p=false):DB r v=v:=by grind [DB,ZJ]
theorem Yj.put {p:Ad->Bool} {id:Ad} {ns:List Ad} {new:Ar} {A B:St} (h:Yj p id ns new A B) (d:Nat) {v:V} (hv:v.c_ p=false):Yj p id ns new (A.put (some d) v) (B.put (some d) v):=by refine⟨by simp [St.put,h.len],fun i=>?_,h.ag9,h.gh,h.so,h.nd,h.pre⟩;have hl:=h.len;have:=h.tm i;simp only [St.put,List.getD_eq_getElem?_getD,getElem?_set,hl]at this ⊢;grind
theorem z9 {H:Aq T} {P:Program} {I:World->Prop} {st:Ac T} (hw:Ay H st) {o:Oper}:Yl (dsb P o st) (fun an=>(∃ H',Nx H st H' an)/\an.pre=st.pre/\ ∀ K:St->Prop,K an.toSt->El P I o st.toSt K):=by
 unfold dsb;split
 ·rename_i t len ps d hop hd;split
  ·rename_i E n by' vs R_ hp;split
   ·rename_i z hz;split
    ·rename_i cs hf;split
     ·rename_i l rs hea;refine Yl.A_ fun hg=>?_;simp only [and_eq_true,beq_eq,blt_eq,ble_eq,not_eq_true']at hg;obtain⟨⟨g1,g2,g3,g4⟩,g5,g6,g7,g8,g9⟩:=hg;subst g1;generalize hr0:d::st.pre=r0 at g7 g8 g9 ⊢;have hrs:r0∉rs:=(by grind [Nu]);obtain⟨ars,ha,hl⟩:=Vc hea 0;obtain⟨⟨H1,n1⟩,k4,k5⟩:=JK hw (Vd rs r0);obtain⟨H2,n2⟩:=GC (l:=[(1000003::r0,DX.deep E (l.length:Nat) l none)]) n1 (fun p hp=>by rcases mem_singleton.1 hp with rfl;trivial) (by simp) (fun p hp e he q=>by rcases mem_singleton.1 hp with rfl;have:=(Ll (k5 e he).2.1).2.1;exact this q)
      obtain⟨s1,s2,s3,s4,s5,_⟩:=Dp [(1000003::r0,DX.deep E (l.length:Nat) l none)] (st.aaQ (Vd rs r0));obtain⟨H3,n3⟩:=Ac.r_ n2 (some d) (v:= .c (.c (.l_ (1000003::r0)))) (by simp only [DV.ok,DC.ok]);refine Yl.ret ⟨⟨H3,n3⟩,by grind [AH],fun K hK F a w G Q hI hR=>?_⟩;obtain⟨p1,p2,p3⟩:=Ec (key:=[]) hw (fun _ hl=>by cases hl) rfl hp;obtain⟨z1,z2⟩:=FF hz;obtain⟨f1,_⟩:=Hd hf;rw [Np z (by omega),UC]at f1;change (st.toSt.parts true ps.toList).1 at p2;change (st.toSt.parts true ps.toList).2=dQ vs at p3;rw [<-p3]at f1;obtain⟨Q_,q1,q2,q3,q4,q5⟩:=GU hR R_ z1 f1 p2 (by rw [AC];exact g2) g3 g4;have h_:(execOp a.eval o).run P w= .ok (.value (.slice (some ⟨w.heap.size,0,none⟩) len len)) (w.alloc (.cells Q_ E)):=by simp [execOp,hop,q1]
      have hml:((Ap cs).map Kw).length =len*T.sz E:=by grind
      have m_:=hR.row r0 E (T.sz E) len len ((Ap cs).map Kw) Q_ Q_.toList (U3 q2) (by grind) hml q4 (le_refl _) q5 true (fun _=>ha.pure);have alR:(⟨r0,some (E,T.sz E,len),(Ap cs).map Kw,true⟩:Ar)∈(st.toSt.new ⟨r0,some (E,T.sz E,len),(Ap cs).map Kw,true⟩).so :=by grind [St.new,QQ,Ar.kill]
      have aox:=m_.abt alR rfl g8 rfl;obtain⟨G2,h2,h3,h4⟩:=m_.afY aox rfl rfl ha.noi (id:=1000003::r0) rfl rfl;have z_:G2.own (1000003::r0)=some (.slice (some ⟨w.heap.size,0,none⟩) len len):=by rw [h3];simp [Bv]
      have hL:=h2.v_ List.mem_cons_self rfl rfl;have hb:G2.blk (1000003::r0)=some w.heap.size:=by obtain⟨hm,_⟩:=L3 hL;have hE:=h2.store _ hm;grind [AN]
      have h5:=h2.put (d:=some d) (v:= .slice (some ⟨w.heap.size,0,none⟩) len len) (x:= .c (.l_ (1000003::r0))) (by simp only [Aa,Ab];exact⟨z_,rfl⟩);have hL5:=h5.v_ (e:=⟨1000003::r0,some (E,T.sz E,len),(Ap cs).map Kw,true⟩) (id:=1000003::r0) (by simp only [St.put];exact List.mem_cons_self) rfl rfl;have aao: ∀ e∈st.toSt.so,e.id ≠ r0->e.id ≠ 1000003::r0->(e.pu=true\/BX (Vd rs r0) e.cs=false)->e∈((st.toSt.new ⟨r0,some (E,T.sz E,len),(Ap cs).map Kw,true⟩).a_ (fun i=>i==r0||(i==1000003::r0||C4 (1000003::r0) i)) (⟨1000003::r0,some (E,T.sz E,len),(Ap cs).map Kw,true⟩::(((st.toSt.new ⟨r0,some (E,T.sz E,len),(Ap cs).map Kw,true⟩).so.filter (fun d=>d.id != r0&&d.id != 1000003::r0)).map (Ar.a_ (fun i=>i==r0||(i==1000003::r0||C4 (1000003::r0) i)))))).so :=by
       intro e he e1 e2 e3;simp only [St.a_,mem_cons,mem_map,mem_filter];right;have hk:e.kill r0=e:=by
        obtain⟨i,r,c,pu⟩:=e;cases pu with
        | true=>rfl
        | false=>
          rcases e3 with e3 | e3
          ·cases e3
          ·exact Ar.acC (by
            simp only [Ar.fre,Bool.false_or,not_eq_true'];cases hq:Bm r0 c with
            | false=>rfl
            | true=>
              have:=TV (Vd rs r0) r0 c e3 hq;simp [Vd,AE.2 rfl]at this)
       have hkp:e.a_ (fun i=>i==r0||(i==1000003::r0||C4 (1000003::r0) i))=e:=by
        obtain⟨i,r,c,pu⟩:=e;cases pu with
        | true=>rfl
        | false=>
          rcases e3 with e3 | e3
          ·cases e3
          ·simp only [Ar.a_,Ar.mk.injEq,true_and,and_true];grind [Qb,D0,Vd,Ll]
       grind [St.new,QQ,St.kill]
      have acS: ∀ i,(i==r0||(i==1000003::r0||C4 (1000003::r0) i))=true->Vd rs r0 i=true:=(by grind [Vd,Ll]);have ait: ∀ i,Qi rs (1000003::r0) i=true->Vd rs r0 i=true:=(by grind [Ll]);have aiv:Vd rs r0 r0=true:=by grind
      have aex: ∀ v:V,v.c_ (Vd rs r0)=false->A9 (fun i=>i==r0||(i==1000003::r0||C4 (1000003::r0) i)) (DB r0 v)=v:=(by grind [aw,Lm]);have ao5:(C.l_ (1000003::r0)).c_ (Qi rs (1000003::r0))=false:=by
       simp only [C.c_];have: ∀ rs':List Ad,(∀ x∈rs',DF x=false)->Qi rs' (1000003::r0) (1000003::r0)=false:=by
        intro rs';induction rs' with
        | nil=>
          intro _;simp only [Qi,HZ];cases hq:C4 (1000003::r0) (1000003::r0)with
          | false=>rfl
          | true=>have:=En hq;cases this
        | cons y rs' ih=>
          intro hy;simp only [Qi];split
          ·rename_i hq;have:=AE.1 hq;have h8:=hy y (by simp);rw [<-this]at h8;cases h8
          grind
       refine this rs fun x hx=>?_;rw [<-ha.ids]at hx;obtain⟨ar,har,rfl⟩:=mem_map.1 hx;exact DP (ha.at_ ar har).1
      obtain⟨G',q⟩:=h5.adk (p:=Qi rs (1000003::r0)) ars hL5 hb (fun ar har=>by
       obtain⟨p1,_,p3',p4⟩:=ha.at_ ar har;obtain⟨hmr,acU⟩:=AZ p1;have hnd:=DP p1;have hin:ar.r∈rs:=by rw [<-ha.ids];grind
       have hrr:ar.r ≠ r0:=(by grind);have hrD:ar.r ≠ 1000003::r0:=fun q=>by rw [q]at hnd;cases hnd
       obtain⟨v,v1,v2⟩:=U4 q2 p4;simp only [Ab]at v2;refine⟨h5.abt (aao _ hmr (by grind) (by grind) (.inl rfl)) acU hnd rfl,by grind,am hin,v,?_,?_⟩
       all_goals simp_all [Bv]) (by rw [ha.ids];exact Fw g6) ((AY [(1000003::r0,DX.deep E (l.length:Nat) l none)] (st.aaQ (Vd rs r0))).put (some d) (.c (.c (.l_ (1000003::r0))))).toSt (by
       rw [Ac.d_];refine Yj.put ?_ d (by grind [V.c_]);have J_:WV (1000003::r0,(DX.deep E (l.length:Nat) l none:DX T))=⟨1000003::r0,some (E,T.sz E,len),FZ ((Ap cs).map Kw) ars,true⟩:=by show (⟨1000003::r0,some (E,T.sz E,l.length),Av T E (l.length:Nat) 0 l,true⟩:Ar)=_;have:=ha.ae9 [] [] rfl;grind [FI]
       have etm:(AY [(1000003::r0,DX.deep E (l.length:Nat) l none)] (st.aaQ (Vd rs r0))).toSt.tm =(st.aaQ (Vd rs r0)).toSt.tm :=by grind [Ac.toSt]
       have egh:(AY [(1000003::r0,DX.deep E (l.length:Nat) l none)] (st.aaQ (Vd rs r0))).toSt.gh =(st.aaQ (Vd rs r0)).toSt.gh :=by simp only [Ac.toSt,s2]
       have hz2: ∀ (r:Ad),DB r .undef = .undef :=fun r=>by simp [DB,V.g_]
       have hz3: ∀ (p:Ad->Bool),A9 p .undef = .undef :=fun p=>by simp [A9,V.c_]
       have gm: ∀ (m:List V) (f:V->V),f .undef = .undef -> ∀ i,(m.map f).getD i .undef =f (m.getD i .undef):=(by grind);refine⟨?_,fun i=>?_,?_,fun i=>?_,fun x hx=>?_,DR n2.ok,?_⟩
       ·rw [etm];show (Aw _ _).length =_;simp only [St.a_,St.new,St.kill,List.length_map,A7];show _=(Aw _ _).length;rw [A7];rfl
       ·rw [etm];rcases U1 (p:=Vd rs r0) st.m st.nx st.tm i with q | ⟨q,q'⟩
        ·exact .inl q
        ·right;have e:(St.a_ (st.toSt.new ⟨r0,some (E,T.sz E,len),(Ap cs).map Kw,true⟩) (fun i=>i==r0||(i==1000003::r0||C4 (1000003::r0) i)) (⟨1000003::r0,some (E,T.sz E,len),(Ap cs).map Kw,true⟩::(((st.toSt.new ⟨r0,some (E,T.sz E,len),(Ap cs).map Kw,true⟩).so.filter (fun d=>d.id != r0&&d.id != 1000003::r0)).map (Ar.a_ (fun i=>i==r0||(i==1000003::r0||C4 (1000003::r0) i)))))).tm.getD i .undef =st.toSt.tm.getD i .undef :=by simp only [St.a_,St.new,St.kill];rw [gm _ _ (hz3 _),gm _ _ (hz2 _)];exact aex _ q'
         rw [e];exact⟨q,D1 ait _ q'⟩
       ·rw [egh];have:=(eC (p:=Vd rs r0) st.gh (st.nx+st.tm.length)).1;simp only [St.a_,St.new,St.kill,List.length_map];exact this
       ·rw [egh];rcases (eC (p:=Vd rs r0) st.gh (st.nx+st.tm.length)).2 i with q | ⟨q,q'⟩
        ·exact .inl q
        ·right;have e:(St.a_ (st.toSt.new ⟨r0,some (E,T.sz E,len),(Ap cs).map Kw,true⟩) (fun i=>i==r0||(i==1000003::r0||C4 (1000003::r0) i)) (⟨1000003::r0,some (E,T.sz E,len),(Ap cs).map Kw,true⟩::(((st.toSt.new ⟨r0,some (E,T.sz E,len),(Ap cs).map Kw,true⟩).so.filter (fun d=>d.id != r0&&d.id != 1000003::r0)).map (Ar.a_ (fun i=>i==r0||(i==1000003::r0||C4 (1000003::r0) i)))))).gh.getD i .undef =st.toSt.gh.getD i .undef :=by simp only [St.a_,St.new,St.kill];rw [gm _ _ (hz3 _),gm _ _ (hz2 _)];exact aex _ q'
         rw [e];exact⟨q,D1 ait _ q'⟩
       ·rw [s5]at hx;simp only [map_cons,map_nil,List.singleton_append,mem_cons]at hx;rcases hx with rfl | hx
        ·grind
        ·right;obtain⟨e,he,rfl⟩:=mem_map.1 hx;obtain⟨c1,c2,c3⟩:=k5 e he;obtain⟨t1,t2,t3,_⟩:=Ll c2;have hpm:e.toE.pu=true\/BX (Vd rs r0) e.toE.cs=false:=by
          unfold DE.toE;cases hx:e.x with
          | box cs=>
            right;rw [hx]at c3;simpa only [DX.c_,Ei] using c3
          | row E l=>grind
          | deep E n l h=>grind
         refine⟨aao _ (mem_map.2 ⟨e,c1,rfl⟩) (by rw [DE.toE_id];exact t1) (by rw [DE.toE_id];exact t2) hpm,by rw [DE.toE_id];exact t2,?_,(by grind [D0])⟩;rw [DE.toE_id,ha.ids];grind [SI]
       ·show (AY _ _).pre =st.pre;grind)
      grind [Au]
     ·exact Yl.no
    ·exact Yl.no
   ·exact Yl.no
  ·exact Yl.no
 ·exact Yl.no
end Go.PL
set_option linter.all false
namespace Go.PL
open Go Go.RowKit
mutual
theorem mo (p q:Ad->Bool): ∀ c:C,c.c_ (fun i=>p i||q i)=(c.c_ p||c.c_ q)
 | .l_ _=>rfl
 | .ptr _ _=>rfl
 | .rsl _ _ _ _=>rfl
 | .bsl _ _ _=>rfl
 | .bld _ _=>rfl
 | .acA _=>rfl
 | .clo _ cs=>by simp_all [C.c_,Ve]
 | .bmv _ cs=>by simp_all [C.c_,Ve]
 | .int .. =>rfl
 | .bool _=>rfl
 | .str _=>rfl
 | .sl .. =>rfl
 | .aaq .. =>rfl
 | .aaJ =>rfl
 | .K_ =>rfl
 | .P_ =>rfl
 | .fn _=>rfl
 | .held =>rfl
 | .any =>rfl
 | .acE .. =>rfl
 | .mp _=>rfl
 | .isl .. =>rfl
theorem Ve (p q:Ad->Bool): ∀ cs:List C,BX (fun i=>p i||q i) cs=(BX p cs||BX q cs)
 | []=>rfl
 | c::cs=>by simp only [BX,mo p q c,Ve p q cs];grind
end
theorem oP (p q:Ad->Bool) (c:C):BJ q (BJ p c)=BJ (fun i=>p i||q i) c:=by unfold BJ;rw [mo];grind
theorem Ar.agI (p q:Ad->Bool) (e:Ar):(e.a_ p).a_ q=e.a_ (fun i=>p i||q i):=by
 obtain⟨i,r,cs,_ | _⟩:=e
 all_goals simp_all [Ar.a_,oP]
def eH (q id i:Ad):Bool:=i==q||(C4 q i||C4 id i)
def jp (q id:Ad) (off:Nat) (i:Ad):Option Ad:=if i=q then none else match i with
 | m::k::r=>if m=1000007 then(if r=q then none else if r=id/\off<=k then some (1000007::(k - off)::q)else some (m::k::r))else some (m::k::r)
 | i=>some i
theorem rN (k:Nat) (i:Ad):Bi k i=1000007::k::i:=rfl
theorem Aaa {q id:Ad} {off k:Nat} (hq:Cf q=false) (n_:id ≠ q):jp q id off (Bi (off+k) id)=some (Bi k q):=by unfold jp;rw [if_neg (BV hq _).symm];simp [rN,n_]
theorem Aab {q id:Ad} {off k:Nat} (hq:Cf q=false) (n_:id ≠ q) (hk:k<off):jp q id off (Bi k id)=some (Bi k id):=by unfold jp;rw [if_neg (BV hq _).symm];simp [rN,n_];omega
theorem rO {q id:Ad} {off:Nat} {i:Ad} (h:eH q id i=false):jp q id off i=some i:=by
 simp only [eH,or_eq_false_iff,beq_eq_false_iff_ne]at h;obtain⟨h1,h2,h3⟩:=h;unfold jp;rw [if_neg h1];split
 ·rename_i m k r;split
  ·rename_i hm;subst hm;have a1:r ≠ q:=(by simp_all [C4]);have a2:r ≠ id:=(by simp_all [C4]);grind
  ·rfl
 ·rfl
theorem wB {q id:Ad} {off:Nat} {i j a:Ad} (h1:jp q id off i=some a) (h2:jp q id off j=some a):i=j:=by
 have key: ∀ i a,jp q id off i=some a->(i=a/\(∀ k,a ≠ 1000007::k::q))\/ ∃ k,i=1000007::(off+k)::id/\a=1000007::k::q:=by
  intro i a h;have short: ∀ i:Ad,i.length<2->jp q id off i=some a->i=a:=fun i hi h=>by
   rcases i with _ | ⟨m,_ | ⟨k,r⟩⟩
   all_goals grind [jp]
  by_cases hl:i.length<2
  ·grind
  ·rcases i with _ | ⟨m,_ | ⟨k,r⟩⟩
   all_goals grind [jp]
 grind
def pZ:C->C
 | .isl .. => .any
 | c=>c
theorem eJ: ∀ {cs:List C},Al cs=true->Al (cs.map pZ)=true
 | [],_=>rfl
 | c::cs,h=>by simp only [map_cons,Al,and_eq_true]at h ⊢;exact⟨by cases c<;>first | exact h.1 | rfl,eJ h.2⟩
theorem mq: ∀ cs:List C,(cs.map pZ).all hZ=true
 | []=>rfl
 | c::cs=>by simp only [map_cons,all_cons,and_eq_true];exact⟨by cases c<;>rfl,mq cs⟩
theorem eK {w:World} {G:Ax}: ∀ {cs:List C} {vs:List Value},Ae w G cs vs->Ae w G (cs.map pZ) vs
 | [],[],_=>by simp [Ae]
 | [],_::_,h=>by grind
 | _::_,[],h=>by simp [Ae]at h
 | c::cs,v::vs,h=>by simp only [Ae,map_cons]at h ⊢;exact⟨by cases c<;>exact h.1,eK h.2⟩
theorem Vf {w:World} {G:Ax}: ∀ {cs:List C} {b o:Nat},Ai w G (cs.map pZ) b o↔Ai w G cs b o
 | [],_,_=>Iff.rfl
 | c::cs,b,o=>by simp only [map_cons,Ai,Vf (cs:=cs)];cases c<;>exact Iff.rfl
section
variable {F:Fr} {st:St} {a:Act} {w:World} {G:Ax}
theorem R.agE (h:R F st a w G) {id q:Ad} {e eq:Ar} (hl:st.u_ id=some e) (hq:st.u_ q=some eq) (n_:id ≠ q) {b off:Nat} (hb:G.blk id=some b) (aaC:off<=e.cs.length) (hdr:e.cs.drop off=eq.cs.map pZ)
 (aah: ∀ k E n len cs v,eq.cs[k]? =some (.isl E n len cs)->G.own (Bi k q)=some v->w.cell? ⟨b,off+k,none⟩=some v):
 ∃ G',R F (st.a_ (eH q id) (((st.so.filter (fun d=>d.id != q)).map (Ar.a_ (eH q id))).map (C_ id e.row (e.cs.take off++eq.cs)))) a w G'/\G'.own id=G.own id:=by
 obtain⟨hm,hid,hd,hmk,hpu,hpe,hi,E0,n0,adt,hr0⟩:=h.W_ hl;obtain⟨hmq,al3,hdq,ajm,atP,aoh,hiq,_⟩:=h.W_ hq;let G':Ax:=⟨fun i=>(jp q id off i).bind G.blk,fun i=>(jp q id off i).bind G.own,fun b=>F.av b\/ ∃ i,(jp q id off i).bind G.blk=some b⟩;have hag: ∀ i,eH q id i=false->G'.blk i=G.blk i/\G'.own i=G.own i:=by intro i hpi;simp only [G',rO hpi,Option.bind_some,and_self]
 have t:aaL F (eH q id) (fun _=>false) G G' w w:=EV h G' rfl hag (by grind [bind_eq_some_iff]) (fun i j b hib hjb=>by obtain⟨x,hx,hx2⟩:=bind_eq_some_iff.1 hib;obtain⟨y,hy,hy2⟩:=bind_eq_some_iff.1 hjb;have:=h.inj _ _ b hx2 hy2;grind [wB])
 have pid:eH q id id=false:=by grind [En,eH]
 have gid:=hag id pid;have ghi: ∀ k,G'.blk (Bi (off+k) id)=G.blk (Bi k q)/\G'.own (Bi (off+k) id)=G.own (Bi k q):=fun k=>by simp only [G',Aaa ajm n_,Option.bind_some,and_self]
 have glo: ∀ k,k<off->G'.blk (Bi k id)=G.blk (Bi k id)/\G'.own (Bi k id)=G.own (Bi k id):=fun k hk=>by simp only [G',Aab ajm n_ hk,Option.bind_some,and_self]
 obtain⟨E1,n1,aeK,v1,aax,adZ,g1,g2,g3,g4,g5,g6,g7,g8,g9⟩:=h.abv hl hb;have T_:Al (e.cs.take off++eq.cs)=true:=by rw [Bl,aoh,Bool.and_true];grind [By]
 have hlen:(e.cs.take off++eq.cs).length =e.cs.length:=by have:=congrArg List.length hdr;grind
 have hno: ∀ cs:List C,Al cs=true->GJ (fun i=>Bm i cs=true) G G':=fun cs hp i M_=>absurd (show Bm i cs=true from M_) (by rw [AL i cs hp];simp);have aca:AN w G' ⟨id,e.row,e.cs.take off++eq.cs,true⟩:=by
  unfold AN;rw [g1];refine⟨by grind,v1,by grind, .inr ⟨b,aax,adZ,g4,by grind,g5,g6,g7,g8,?_⟩⟩;have h9:=Ai.mono t.keeps _ _ _ (hno _ hpe) (fun _=>rfl) g9;rw [<-Vf]at h9 ⊢;have:(e.cs.take off++eq.cs).map pZ=e.cs.map pZ:=by
   rw [map_append, <-hdr];have e1:(e.cs.drop off).map pZ=e.cs.drop off:=by rw [hdr,map_map];exact List.map_congr_left fun c _=>by cases c<;>rfl
   grind [List.take_append_drop]
  grind
 have hin:Dw w G' ⟨id,e.row,e.cs.take off++eq.cs,true⟩:=by
  intro j E2 n2 aag cs2 hj;by_cases hjo:j<off
  ·rw [List.getElem?_append_left (by simp;omega),List.getElem?_take_of_lt hjo]at hj;obtain⟨k1,k2,b2,v2,k3,k4,k5⟩:=h.inner hl hj;have gjj:=glo j hjo;exact⟨k1,BN t.keeps (hno _ k1) gjj (fun _ _=>rfl) k2,b2,v2,by grind,k4,by grind⟩
  ·obtain⟨k,rfl⟩: ∃ k,j=off+k:=(by grind);rw [List.getElem?_append_right (by simp;omega),List.length_take,Nat.min_eq_left aaC,Nat.add_sub_cancel_left]at hj;obtain⟨k1,k2,b2,v2,k3,k4,k5⟩:=h.inner hq hj;obtain⟨gh1,gh2⟩:=ghi k;exact⟨k1,ZY t.keeps k1 gh1 gh2 k2,b,v2,by grind,(by grind),by grind⟩
 have E_:=t.afx h hl (fun d=>d.id != q) (fun d Y_ hf abD=>by
  have hdm:=(h.deep d Y_).1;have hdq:d.id ≠ q:=by grind
  have ofF: ∀ x,C4 x d.id=false:=(by grind [En]);refine⟨by simp [eH,hdq,ofF],rfl,fun _ k=>⟨?_,rfl⟩⟩;grind [BV,eH,FR]) (by rw [g1];rfl) aca hin T_
 exact⟨G',t.acj h _ E_.1 E_.2.1 E_.2.2.1 E_.2.2.2,gid.2⟩
end
variable {T:AX}
def az:Option (DC T)->Bool
 | some (.c .P_)=>true
 | _=>false
def wC (i:Ad) (j:Nat) (k:Ad) (s:Ac T):Option (Ac T):=match G8 s i with
 | some cs=>match az cs[j]? with
   | true=>some (s.aaf i (.box (cs.set j (.c (.l_ k)))))
   | false=>none
 | none=>none
def Ac.own (st:Ac T) (i:Ad) (j:Nat) (k:Ad) (E:Nat):Option (Ac T):=match k with
 | 1000003::k0=>match st.new k0 (.row E [])with
   | some s=>match dpn k0 s with
     | some s=>wC i j (1000003::k0) s
     | none=>none
   | none=>none
 | k=>match st.new k (.row E [])with
   | some s=>wC i j k s
   | none=>none
theorem eM {o:Option (DC T)} (h:az o=true):o=some (.c .P_):=by grind [az]
theorem Yy {H:Aq T} {s s':Ac T} {i k:Ad} {j:Nat} (h:Ay H s) (ho:wC i j k s=some s'):(∃ H',Nx H s H' s')/\s'.pre=s.pre/\ ∀ (F:Fr) (a:Act) (w:World) (G:Ax),R F s.toSt a w G->G.own k=some (.slice none 0 0)->R F s'.toSt a w G:=by
 unfold wC at ho;split at ho
 ·rename_i cs hb;split at ho
  ·rename_i hn;injection ho with ho;subst ho;have hc:=eM hn;have hok:(DX.box (cs.set j (.c (.l_ k)))).ok :=Cp.2 fun c hm=>by
    rcases List.mem_or_eq_of_mem_set hm with q | q
    ·exact Cp.1 (Oc h hb) c q
    grind [DC.ok]
   obtain⟨H2,n2⟩:=Ac.aab h i hok;refine⟨⟨H2,n2⟩,rfl,fun F a w G hR ho=>?_⟩;obtain⟨hl,_,e,e1,e2,e3⟩:=EY hb;have agY:s.toSt.adp i j=true:=by
    unfold St.adp;rw [hl];have:(Ap cs)[j]? =some .P_ :=by rw [BT,List.getElem?_map,hc];rfl
    grind
   have ac8:(s.aaf i (.box (cs.set j (.c (.l_ k))))).toSt =s.toSt.setCell i j (.l_ k):=by
    have hF:=Uz (t:=s.nx) (x:= .box (cs.set j (.c (.l_ k)))) (F:=fun e=>if e.id==i&& !e.pu then⟨e.id,e.row,e.cs.set j (.l_ k),false⟩else e) (id:=i)
     (by grind) h.nd e1 e2 (by
      simp_all [DE.toE,BT,DC.toC])
    simp_all [Ac.toSt,Ac.aaf,St.setCell]
   rw [ac8];exact hR.setCell agY ho
  ·cases ho
 ·cases ho
theorem rP {H:Aq T} {st an:Ac T} {i k:Ad} {j E:Nat} (h:Ay H st) (ho:st.own i j k E=some an):(∃ H',Nx H st H' an)/\Wk st.toSt an.toSt/\an.pre=st.pre:=by
 unfold Ac.own at ho;split at ho
 ·rename_i k0;split at ho
  ·rename_i s hs;split at ho
   ·rename_i s2 hs2;obtain⟨⟨H1,n1⟩,h2,h3⟩:=Ac.aaK h (x:= .row E []) trivial hs;obtain⟨⟨H2,n2⟩,p2,k2⟩:=eD n1.ok hs2;obtain⟨⟨H3,n3⟩,p3,k3⟩:=Yy n2.ok ho;refine⟨⟨H3,(n1.trans n2).trans n3⟩,?_,by grind⟩;intro F a w G hR;have q1:=hR.afc k0 E (T.sz E);have e5:(⟨k0,0,DX.row E []⟩:DE T).toE =⟨k0,some (E,T.sz E,0),[],true⟩:=rfl;rw [e5]at h2;obtain⟨G',g1,g2⟩:=k2 _ _ _ _ (q1.less h2);exact⟨G',(by simp_all [Bv])⟩
   ·cases ho
  ·cases ho
 ·split at ho
  ·rename_i s hs;obtain⟨⟨H1,n1⟩,h2,h3⟩:=Ac.aaK h (x:= .row E []) trivial hs;obtain⟨⟨H3,n3⟩,p3,k3⟩:=Yy n1.ok ho;refine⟨⟨H3,n1.trans n3⟩,?_,by rw [p3,h3]⟩;intro F a w G hR;have q1:=hR.afc k E (T.sz E);have e5:(⟨k,0,DX.row E []⟩:DE T).toE =⟨k,some (E,T.sz E,0),[],true⟩:=rfl;rw [e5]at h2;exact⟨_,k3 _ _ _ _ (q1.less h2) (by simp [Bv])⟩
  ·cases ho
def adp (st:Ac T) (i:Ad) (j:Nat):Bool:=match G8 st i with
 | some cs=>az cs[j]?
 | none=>false
def aA:List (Ad×Nat×Ad×Nat)->Ac T->Option (Ac T)
 | [],st=>some st
 | (i,j,k,E)::r,st=>match adp st i j with
   | false=>aA r st
   | true=>match st.own i j k E with
     | some s=>aA r s
     | none=>none
theorem Ql {H0:Aq T} {Tz:Ac T}: ∀ {l:List (Ad×Nat×Ad×Nat)} {st an:Ac T} {H:Aq T},Nx H0 Tz H st->aA l st=some an->(∃ H',Nx H0 Tz H' an)/\Wk st.toSt an.toSt/\an.pre=st.pre
 | [],st,an,H,hN,h=>by simp only [aA,injEq]at h;subst h;exact⟨⟨H,hN⟩,Wk.less (B0.refl _),rfl⟩
 | (i,j,k,E)::r,st,an,H,hN,h=>by
   simp only [aA]at h;split at h
   ·exact Ql hN h
   split at h
   ·rename_i s hs;obtain⟨⟨H1,n1⟩,w1,p1⟩:=rP hN.ok hs;obtain⟨a,b,c⟩:=Ql (hN.trans n1) h;exact⟨a,w1.trans b,c.trans p1⟩
   ·cases h
def NF (q id i:Ad):Bool:=match AP i id with
 | true=>true
 | false=>match AP i q with
   | true=>true
   | false=>match Io.abK q i with
     | true=>true
     | false=>Io.abK id i
theorem aB (q id:Ad):NF q id=fun i=>(i==id)||eH q id i:=by grind [NF,eH,HZ,B1]
def dad (P:Program) (o:Oper) (st:Ac T):M (Ac T):=match o.op,o.dst with
 | .call c,some d=>match c.callee,c.args.toList,c.argTypes.toList with
   | .builtin .append,[u,x],[t,t']=>match st.arg [] u,st.arg [] x,Cw P t with
     | some (.c (.c (.l_ id))),some (.c (.c (.l_ q))),some (E',n,by')=>match G9 st id,G9 st q with
       | some ⟨E,(nn,l,none)⟩,some ⟨E2,(mm,m,none)⟩=>match UZ E E2 m with
         | some m'=>A_ (Nat.beq t t'&&(Nat.beq E' E&&(Nat.beq n (T.sz E)&&(Nat.blt 0 n&&(DF id&&(DF q&& !AP id q)))))) (.opt (app by' l m') fun r=> .opt (DG (nn=(l.length:Int)/\mm=(m'.length:Int)/\0<m'.length)) fun _=>
          .ret ((AY [(id, .deep E (r.length:Nat) r none)] (st.s_ (NF q id))).put (some d) (.c (.c (.l_ id)))))
         | none=> .no
       | _,_=> .no
     | _,_,_=> .no
   | _,_,_=> .no
 | _,_=> .no
theorem Aac {H:Aq T} {P:Program} {I:World->Prop} {st:Ac T} (hw:Ay H st) {o:Oper}:Yl (dad P o st) (fun an=>(∃ H',Nx H st H' an)/\an.pre=st.pre/\ ∀ K:St->Prop,K an.toSt->El P I o st.toSt K):=by
 unfold dad;split
 case h_2=>exact Yl.no
 rename_i c d hop abR;split
 case h_2=>exact Yl.no
 rename_i u x t t' aaD aas agd;split
 case h_2=>exact Yl.no
 rename_i id q E' n by' hu hx R_;split
 case h_2=>exact Yl.no
 rename_i E nn l E2 mm m hdi hdq;split
 case h_2=>exact Yl.no
 rename_i m' al_;refine Yl.A_ fun hg=>Yl.opt fun r hr=>Yl.opt fun un hun=>?_;simp only [and_eq_true,beq_eq,blt_eq,not_eq_true']at hg;obtain⟨g1,g2,g3,g4,g5,g6,g7⟩:=hg;subst g1 g2 g3;obtain⟨e2,hm'⟩:=Hk al_;subst e2;replace hm':m'=m:=hm';subst hm';obtain⟨hnn,hmm,hm0⟩:=BK hun;have hrx:=yg hr;have hrb:=yf hr;have n_:id ≠ q:=fun e=>by rw [AE.2 e]at g7;cases g7
 obtain⟨aou,_,ei,aoV,aoU,aoT⟩:=Br hdi;obtain⟨ajm,_,eq,aoR,aoQ,aoP⟩:=Br hdq;have hE:ei.toE=⟨id,some (E2,T.sz E2,l.length),Av T E2 nn 0 l,true⟩:=by unfold DE.toE;rw [aoT,aoU];rfl
 have hQ:eq.toE=⟨q,some (E2,T.sz E2,m'.length),Av T E2 mm 0 m',true⟩:=by unfold DE.toE;rw [aoP,aoQ];rfl
 obtain⟨⟨H1,n1⟩,k1,k2,k3,k4,k5⟩:=Ac.aaB hw (NF q id);obtain⟨H2,n2⟩:=GC (l:=[(id,DX.deep E2 (r.length:Nat) r none)]) n1 (fun p hp=>by rcases mem_singleton.1 hp with rfl;trivial) (by simp) (fun p hp e he q'=>by rcases mem_singleton.1 hp with rfl;have:=k5 e he;rw [aB,q']at this;simp at this)
 obtain⟨s1,s2,s3,s4,s5,_⟩:=Dp [(id,DX.deep E2 (r.length:Nat) r none)] (st.s_ (NF q id));obtain⟨H3,n3⟩:=Ac.r_ n2 (some d) (v:= .c (.c (.l_ id))) (by simp only [DV.ok,DC.ok]);refine Yl.ret ⟨⟨H3,n3⟩,by rw [AH,s3];exact k4,fun K hK F a w G Q hI hR=>?_⟩;obtain⟨a1,a2,a3⟩:=E3 hw hu;obtain⟨b1,b2,b3⟩:=E3 hw hx;have huv:=hR.arg rfl a2;have H_:=hR.arg rfl b2;rw [a3]at huv;rw [b3]at H_;simp only [DV.toV,DC.toC,Aa,Ab]at huv H_;have hmi:ei.toE∈st.toSt.so:=mem_map.2 ⟨ei,aoV,rfl⟩;have hmq:eq.toE∈st.toSt.so:=mem_map.2 ⟨eq,aoR,rfl⟩;have hL:st.toSt.u_ id=some ei.toE:=hR.v_ hmi (by rw [hE]) g5;have hLq:st.toSt.u_ q=some eq.toE:=hR.v_ hmq (by rw [hQ]) g6;have hpq:Al eq.toE.cs=true:=hR.k_ _ hmq (by rw [hQ]);obtain⟨v,xs,c1,c2,c3,c4⟩:=C8 (e:=ei.toE) (by rw [hE]) (hR.store _ hmi);obtain⟨vq,us,d1,d2,d3,d4⟩:=C8 (e:=eq.toE) (by rw [hQ]) (hR.store _ hmq);rw [show ei.toE.id=id by rw [hE],huv.1]at c1;injection c1 with c1;rw [show eq.toE.id=q by rw [hQ],H_.1]at d1;injection d1 with d1;obtain⟨i,z,hty,hi,hz,Tr,hby,hzs⟩:=Bh R_;rcases d4 with ⟨d4,d5⟩ | ⟨_,_,d4,_⟩
 case inr=>omega
 obtain⟨bq,ahb,apN,p1,_,p2,p3,p4,p5,p6⟩: ∃ g cap cur,vq= .slice (some ⟨g,0,none⟩) m'.length cap/\0<=g/\w.heap[g]? =some (.cells cur E2 (0,0))/\m'.length<=cap/\cap<=maxLen/\cur.size=cap*T.sz E2/\cur.toList.take (m'.length*T.sz E2)=us:=by
  rcases d4.2 with ⟨_,h0⟩ | h1
  ·omega
  ·exact h1
 have hul:us.length=m'.length*T.sz E2:=d4.1;have hbq:G.blk q=some bq:=by rw [<-show eq.toE.id=q by rw [hQ], <-d5,p1];rfl
 have abA: ∀ j u',us[j]? =some u'->w.cell? ((⟨bq,0,none⟩:Addr).add j)=some u':=d4.cells (g:=bq) (by rw [p1];rfl);have aa3: ∀ u∈us,u.oneCell'=true:=Ae.one d3;have ajr: ∀ k E2 n len cs v,eq.toE.cs[k]? =some (.isl E2 n len cs)->G.own (Bi k q)=some v->us[k]? =some v:=by
  intro k E2 n len cs v hk ho;obtain⟨_,_,b2,v2,i1,i2,i3⟩:=hR.inner hLq hk;rw [hbq]at i1;injection i1 with i1;subst i1;rw [ho]at i3;injection i3 with i3;subst i3;have hkl:k<us.length:=by have:=d3.length;have:=(List.getElem?_eq_some_iff.1 hk).1;omega
  have:=abA k us[k] (List.getElem?_eq_getElem hkl);rw [Addr.add_mid]at this;rw [List.getElem?_eq_getElem hkl];have e0:(⟨bq,0+k,none⟩:Addr)=⟨bq,k,none⟩:=by rw [zero_add]
  rw [e0,i2]at this;exact this.symm
 have main: ∀ v0 v' w',(Builtin.append_ #[t,t] o.type #[a.eval u,a.eval x]).run P w= .ok v' w'->v0.ownBlock=G.blk id->(∀ b j u',G.blk id=some b->xs[j]? =some u'->w.cell? ⟨b,j,none⟩=some u')->w.ownsRow 0 E2 (T.sz E2) v0 l.length xs->w'.ownsRow 0 E2 (T.sz E2) v' (l.length+m'.length) (xs++us)->w.grownBy w' v0.ownBlock->(v'.ownBlock=v0.ownBlock\/ ∀ b,v'.ownBlock=some b->w.heap.size<=b)->o.wp P a w (hH F K) Q:=by
  intro v0 v' w' h_ hob hxc hold J_ hg hfr;obtain⟨f1,f2⟩:=hR.acH hL (by rw [hE]) hob c3 (eK d3) hxc hold J_ hg hfr (eJ hpq) (mq _);have m_:ei.toE.row=some (E2,T.sz E2,l.length):=by rw [hE]
  have hpe:ei.toE.a_ (· ==id)=ei.toE:=by rw [hE];rfl
  have hD:=f1.v_ (e:=⟨id,some (E2,T.sz E2,l.length+m'.length),ei.toE.cs++eq.toE.cs.map pZ,true⟩) (id:=id) (by
   refine mem_map.2 ⟨ei.toE,mem_map.2 ⟨ei.toE,hmi,hpe⟩,?_⟩;rw [C3 (by rw [hE]),hE]) rfl g5
  have hDq:=f1.v_ (e:=eq.toE) (id:=q) (by
   refine mem_map.2 ⟨eq.toE,mem_map.2 ⟨eq.toE,hmq,by rw [hQ];rfl⟩,?_⟩;exact C2 (by rw [hQ];exact n_.symm)) (by rw [hQ]) g6
  have hlx:xs.length=l.length*T.sz E2:=hold.1;have hcl:ei.toE.cs.length=xs.length:=c3.length;have hnl:(xs++us).length =(l.length+m'.length)*T.sz E2:=J_.1;obtain⟨g,cap,cur,r1,_,r2,r3,r4,r5,r6⟩: ∃ g cap cur,v'= .slice (some ⟨g,0,none⟩) (l.length+m'.length) cap/\0<=g/\w'.heap[g]? =some (.cells cur E2 (0,0))/\l.length+m'.length<=cap/\cap<=maxLen/\cur.size=cap*T.sz E2/\cur.toList.take ((l.length+m'.length)*T.sz E2)=xs++us:=by
   rcases J_.2 with ⟨_,h0⟩ | h1
   ·omega
   ·exact h1
  have aah: ∀ k v,us[k]? =some v->w'.cell? ⟨g,ei.toE.cs.length+k,none⟩=some v:=by intro k v hk;have hrg:=Bp r2 (us:=xs++us) (rest:=cur.toList.drop ((l.length+m'.length)*T.sz E2)) (by rw [<-r6,List.take_append_drop]);have hkl:=(List.getElem?_eq_some_iff.1 hk).1;have:=hrg (ei.toE.cs.length+k) v (by rw [hcl,List.getElem?_append_right (by omega),Nat.add_sub_cancel_left];exact hk);grind
  obtain⟨G',q1,q2⟩:=f1.agE hD hDq n_ (b:=g) (off:=ei.toE.cs.length) (by simp [Bv,r1,Value.ownBlock]) (by simp) (by simp) (fun k E2 n len cs v hk ho=>aah k v (ajr k E2 n len cs v hk (by
   have:Bi k q ≠ id:=(BV aou k).symm;simpa [Bv,this] using ho)))
  have ea:c.args= #[u,x]:=by have:=congrArg List.toArray aas;simpa using this
  have et:c.argTypes= #[t,t]:=by have:=congrArg List.toArray agd;simpa using this
  have aeM:(execOp a.eval o).run P w= .ok (.value v') w':=by simp [execOp,hop,resolve,aaD,ea,et,invoke,builtin,h_]
  refine Au aeM ⟨_,G',hK,?_⟩;rw [abR];have ag2:=R.put (d:=some d) q1 (show Aa w' G' (V.c (C.l_ id)) v' by simp only [Aa,Ab];exact⟨by rw [q2];simp [Bv],f2⟩);refine ag2.less ?_;rw [Ac.d_];have aex: ∀ v:V,A9 (eH q id) (A9 (· ==id) v)=A9 (NF q id) v\/A9 (NF q id) v= .undef :=by
   intro v;by_cases hh:v.c_ (NF q id)=true
   ·exact .inr (by unfold A9;rw [if_pos hh])
   ·have hh:v.c_ (NF q id)=false:=by simpa using hh
    left;rw [aB]at hh ⊢;rw [Lm (q:=(· ==id)) (fun i hi=>by simp only [beq_iff_eq]at hi;simp [hi]) hh,Lm (q:=eH q id) (fun i hi=>by simp [hi]) hh];unfold A9;rw [if_neg (by simp [hh])]
  have hls: ∀ l:List V,Gz ((l.map (A9 (· ==id))).map (A9 (eH q id))) (l.map (A9 (NF q id))):=fun l=>by
   rw [map_map];exact Gz.map fun v _=>by
    rcases aex v with e | e
    ·exact .inr e.symm
    ·exact .inl e
  have htr: ∀ {a b c:List V},Gz a b->Gz b c->Gz a c:=by
   intro a b c h1 h2;obtain⟨l1,g1⟩:=h1.get;obtain⟨l2,g2⟩:=h2.get;exact Gz.of (l2.trans l1) fun i=>by
    rcases g2 i with e | e
    ·exact .inl e
    ·rw [e];exact g1 i
  refine B0.put (H5 ?_ ?_ ?_ ?_ ?_) _ _
  ·have:(AY [(id,DX.deep E2 (r.length:Nat) r none)] (st.s_ (NF q id))).toSt.tm =(st.s_ (NF q id)).toSt.tm :=by simp only [Ac.toSt,s1,s4]
   rw [this];exact htr (hls _) k1
  ·have:(AY [(id,DX.deep E2 (r.length:Nat) r none)] (st.s_ (NF q id))).toSt.gh =(st.s_ (NF q id)).toSt.gh :=by simp only [Ac.toSt,s2]
   rw [this];exact htr (hls _) k2
  ·intro y hy;rw [s5]at hy;simp only [map_cons,map_nil,List.singleton_append,mem_cons]at hy;simp only [St.a_,mem_map,mem_filter];rcases hy with rfl | hy
   ·refine⟨⟨id,some (E2,T.sz E2,l.length+m'.length),ei.toE.cs++eq.toE.cs.map pZ,true⟩,⟨⟨id,some (E2,T.sz E2,l.length+m'.length),ei.toE.cs++eq.toE.cs.map pZ,true⟩,⟨⟨ei.toE,⟨ei.toE,hmi,hpe⟩,by rw [C3 (by rw [hE]),hE]⟩,by simpa using n_⟩,rfl⟩,?_⟩;refine(C3 rfl).trans ?_;show (⟨id,_,(ei.toE.cs++eq.toE.cs.map pZ).take ei.toE.cs.length++eq.toE.cs,true⟩:Ar)=⟨id,some (E2,T.sz E2,r.length),Av T E2 (r.length:Nat) 0 r,true⟩;rw [List.take_left',hrx,hE,hQ,List.length_append]
    ·congr 1;simp only;rw [FI (by omega),FI (by omega),FI (by simp),List.flatMap_append]
    ·rfl
   ·rw [k3]at hy;obtain⟨e3,h1,rfl⟩:=mem_map.1 hy;obtain⟨h1,h2⟩:=mem_filter.1 h1;rw [aB]at h2 ⊢;simp only [not_eq_true',or_eq_false_iff,beq_eq_false_iff_ne,eH]at h2;obtain⟨h2,h3,h4⟩:=h2;refine⟨(e3.a_ (· ==id)).a_ (eH q id),⟨e3.a_ (· ==id),⟨⟨e3.a_ (· ==id),⟨e3,h1,rfl⟩,C2 (by rw [Ar.j_];exact h2)⟩,by rw [Ar.j_];simpa using h3⟩,rfl⟩,?_⟩;rw [C2 (by rw [Ar.j_,Ar.j_];exact h2),Ar.agI]
  ·exact DR n2.ok
  ·rw [show (AY [(id,DX.deep E2 (r.length:Nat) r none)] (st.s_ (NF q id))).toSt.pre =st.pre from by show (AY _ _).pre =_;rw [s3];exact k4];rfl
 rw [show ei.toE.id=id by rw [hE]]at c4;rcases c4 with ⟨c4,c5⟩ | ⟨p,hvp,h0,hxs,c5⟩
 ·have hxc: ∀ b j u',G.blk id=some b->xs[j]? =some u'->w.cell? ⟨b,j,none⟩=some u':=by intro b j u' hb' hj;have:=c4.cells (g:=b) (by grind) j u' hj;grind [Addr.add_mid]
  obtain⟨v',w',h_,z_,hg,hfr⟩:=Cj (P:=P) (w:=w) t o.type E2 i z (T.sz E2) by' hty hi hz Tr hby hzs g4 v l.length xs c4 ⟨bq,0,none⟩ m'.length ahb us hul abA aa3 hrb.2 hrb.1;exact main v v' w' (by rw [c1,d1,p1];exact h_) c5 hxc c4 z_ hg hfr
 ·have alj:xs=[]:=hxs;obtain⟨v',w',h_,z_,hg,hfr⟩:=DQ (P:=P) (w:=w) t o.type E2 i z (T.sz E2) by' hty hi hz Tr hby hzs g4 p ⟨bq,0,none⟩ m'.length ahb us hul abA (by omega) (by have:=hrb.2;omega) (by have:=hrb.1;rw [h0,zero_add]at this;exact this);exact main (.slice none 0 0) v' w' (by rw [c1,d1,p1,hvp];exact h_) c5.symm (by rw [c5];intro b j u' hb';cases hb') ⟨by rw [alj,h0];simp, .inl ⟨rfl,h0⟩⟩ (by rw [alj,h0,zero_add,List.nil_append];exact z_) (by exact hg) (.inr hfr)
theorem abH {P:Program} (w:World) (dT sT ty elem:TypeId) (d a:Option Addr) (amq apJ akH anj:Nat) (hu:P.underlying dT=some (.slice elem)) (hs:(P.info? elem).map (·.size)=some 1) (hn:Nat.min akH amq=0):
 (Builtin.copy_ #[dT,sT] ty #[.slice d amq apJ, .slice a akH anj]).run P w= .ok (goInt 0) w:=by
 cases hq:P.info? elem with
 | none=>grind
 | some i=>
   have hl: ∀ (x:Addr),(loadCells x 0).run P w= .ok #[] w:=fun x=>by simpa using run_loadCells_list (P:=P) w x [] (by simp)
   cases d<;>cases a<;>simp [Builtin.copy_,run_underlying hu,Builtin.lenOf,Builtin.firstCells,sizeOf,typeInfo,hq,hn,storeCells,hl]
def dcp (P:Program) (o:Oper) (st:Ac T):M (Ac T):=match o.op,o.dst with
 | .call c,some d=>match c.callee,c.args.toList,c.argTypes.toList with
   | .builtin .copy,[x,y],[t,_]=>match st.arg [] x,st.arg [] y,Ck P t with
     | some (.c (.c (.l_ id))),some (.c y'),some (e,n)=>match CI st id with
       | some ⟨E,l⟩=>match Fz false (.w_ E) y' with
         | some m=>A_ (Nat.beq e E&&(Nat.beq n (T.sz E)&&Nat.beq n 1)) (.opt (DG (m.length=l.length)) fun _=>
          .ret ((st.aaf id (.row E m)).put (some d) (.c (.k (.int .i64) ((List.length l:Nat):Int)))))
         | none=> .no
       | none=> .no
     | _,_,_=> .no
   | _,_,_=> .no
 | _,_=> .no
theorem Aad {H:Aq T} {P:Program} {I:World->Prop} {st:Ac T} (hw:Ay H st) {o:Oper}:Yl (dcp P o st) (fun an=>(∃ H',Nx H st H' an)/\an.pre=st.pre/\ ∀ K:St->Prop,K an.toSt->El P I o st.toSt K):=by
 unfold dcp;split
 case h_2=>exact Yl.no
 rename_i c d hop abR;split
 case h_2=>exact Yl.no
 rename_i x y t t2 aaD aas agd;split
 case h_2=>exact Yl.no
 rename_i id y' e n hx hy ht;split
 case h_2=>exact Yl.no
 rename_i E l hr;split
 case h_2=>exact Yl.no
 rename_i m hm;refine Yl.A_ fun hg=>Yl.opt fun u hn=>Yl.ret ?_;simp only [and_eq_true,beq_eq]at hg;obtain⟨g1,g2,g3⟩:=hg;subst g1;have an3:T.sz e=1:=by omega
 have hlen:=BK hn;obtain⟨a1,a2,a3⟩:=E3 hw hx;obtain⟨b1,b2,b3⟩:=E3 hw hy;obtain⟨hu,inf,hi1,Tr⟩:=B4 ht;obtain⟨H1,n1⟩:=Ac.aab hw id (x:= .row e m) trivial;obtain⟨H2,n2⟩:=Ac.r_ n1 (some d) (v:= .c (.k (.int .i64) ((l.length:Nat):Int))) (by simp only [DV.ok,DC.ok]);refine⟨⟨H2,n2⟩,by rw [AH];rfl,fun K hK F a w G Q hI hR=>?_⟩;have H_:=hR.arg rfl a2;rw [a3]at H_;simp only [DV.toV,DC.toC,Aa,Ab]at H_;have hyv:=hR.arg rfl b2;have hyc:y'.toC=AW T.enc (.w_ e) m:=(BP hm).2 rfl;rw [b3]at hyv;simp only [DV.toV,hyc,AW,Aa,Ab]at hyv;obtain⟨hpm,ad,ahc,hye,_,_,_,m_⟩:=hyv;obtain⟨v,v1,v2⟩:=hR.aa0 hr;rw [H_.1]at v1;injection v1 with v1;have ea:c.args= #[x,y]:=by grind
 have et:c.argTypes= #[t,t2]:=by grind
 have hs1:(P.info? e).map (·.size)=some 1:=by grind
 have fin: ∀ w',(Builtin.copy_ #[t,t2] o.type #[a.eval x,a.eval y]).run P w= .ok (goInt l.length) w'->R F (st.aaf id (.row e m)).toSt a w' G->o.wp P a w (hH F K) Q:=by
  intro w' h_ hR';have aeM:(execOp a.eval o).run P w= .ok (.value (goInt l.length)) w':=by simp_all [execOp,resolve,invoke,builtin]
  refine Au aeM ⟨_,G,hK,?_⟩;rw [abR,Ac.d_];exact hR'.put (by simp only [DV.toV,DC.toC,AW,Aa,Ab,goInt])
 have aqD:l.length=0->R F (st.aaf id (.row e m)).toSt a w G:=by
  intro h0;have hml:m=l:=by grind
  obtain⟨h1,_,e0,e1,e2,e3⟩:=Bg hr;refine hR.less ⟨rfl,fun i=> .inr rfl,fun z hz=>?_,fun _=>DR n1.ok,⟨rfl,fun i=> .inr rfl⟩,rfl⟩;obtain⟨e5,h5,rfl⟩:=mem_map.1 hz;rcases aaz hw.nd h5 with ⟨h6,_⟩ | h6
  ·exact mem_map.2 ⟨e5,h6,rfl⟩
  ·subst h6;refine mem_map.2 ⟨e0,e1,?_⟩;grind [DE.toE_row]
 rcases v2 with ⟨p,rfl,h0⟩ | ⟨b,cap,cur,rfl,v3,v4,v5,v6,v7,v8⟩
 ·grind [abH]
 ·by_cases h0:l.length=0
  ·grind [abH]
  ·rcases m_ with m_ | ⟨b2,off,rfl,hwr,hb2,m_⟩
   ·omega
   ·obtain⟨us,u1,u2⟩:=m_.list;have hul:us.length=l.length:=by have h7:(List.flatMap (T.enc e) m).length =List.length m*T.sz e:=U5 (fun y=>AG e y) m;rw [<-u1.length,h7,an3,mul_one,hlen]
    have hml:(m.flatMap (T.enc e)).length =l.length:=by rw [u1.length,hul]
    obtain⟨acb,T',s1,s2,s3⟩:=R.acP (m:=m) hR hw hr v3 (off:=0) u1 hpm hlen (by
     rw [List.take_zero,List.nil_append,zero_add,List.drop_eq_nil_of_le (by
      have h7:(List.flatMap (T.enc e) l).length =List.length l*T.sz e:=U5 (fun y=>AG e y) l;grind),List.append_nil]) (by grind)
    have h_:=run_copy_row (P:=P) w t t2 o.type e b 0 l.length cap ⟨b2,off,none⟩ (List.length m) ahc acb T' us hu hs1 s1 (by grind) (fun j v hv=>by have:=u2 j v hv;grind [Addr.add_mid]) (by omega) (Ae.one u1)
    grind
end Go.PL
namespace Go.PL
open Go Go.RowKit
variable {T:AX}
def jn {X R:Type} (J:X->Option R) (body:(X->Option R)->Option R):Option R:=body J
inductive Sp where
 | co
 | sub (md:Bool)
 | clr
 | apb
 | dlx
 | dsa
 | dse
 | mk
 | ss
 | ins
 | bf
 | sb
 | mld
 | mix
 | mst
 | lz
 | by_
 | ga
 | gl
 | ad
 | cp
 | au
inductive Gh where
 | tr (d:Nat)
 | dp (d:Nat)
 | fd (id:Ad)
 | ug (ks:List Nat)
mutual
inductive Hn where
 | n
 | s (a b:Hn)
 | j (sh:FG) (a b:Hn)
 | i (a b:Hn)
 | l (sh:FG) (xs:List (Nat×FG)) (b:Hn)
 | r (fz:List Ad) (ow:List (Ad×Nat×Ad×Nat)) (il:Hl)
 | x
inductive Hl where
 | n
 | c (k:Nat) (h:Hn) (r:Hl)
 | j (k:Nat) (sh:FG) (h:Hn) (r:Hl)
 | q (k:Nat) (sp:Sp) (r:Hl)
 | u (k:Nat) (ks:List Nat) (ke:List Ad) (kd:Kd) (h:Hn) (r:Hl)
 | g (k:Nat) (gh:Gh) (r:Hl)
 | t (r:Hl)
end
def Hn.a:Hn->Hn
 | .s a _=>a
 | .i a _=>a
 | _=> .n
def Hn.b:Hn->Hn
 | .s _ b=>b
 | .i _ b=>b
 | _=> .n
inductive HA where
 | n
 | c (h:Hn)
 | j (sh:FG) (h:Hn)
 | q (sp:Sp)
 | u (ks:List Nat) (ke:List Ad) (kd:Kd) (h:Hn)
def I7:Hl->Nat->HA
 | .n,_=> .n
 | .c k h r,i=>match Nat.beq k i with
   | true=> .c h
   | false=>I7 r i
 | .j k sh h r,i=>match Nat.beq k i with
   | true=> .j sh h
   | false=>I7 r i
 | .q k sp r,i=>match Nat.beq k i with
   | true=> .q sp
   | false=>I7 r i
 | .u k ks ke kd h r,i=>match Nat.beq k i with
   | true=> .u ks ke kd h
   | false=>I7 r i
 | .g _ _ r,i=>I7 r i
 | .t r,i=>I7 r i
def AeQ:Hl->Bool
 | .t _=>true
 | _=>false
def dgh:Gh->Ac T->M (Ac T)
 | .tr d,st=>dtr d st
 | .dp d,st=>ddp d st
 | .fd id,st=>match st.ajJ id with
   | some s=> .ret s
   | none=> .no
 | .ug ks,st=> .ret (dug ks st)
def Qm:Hl->Nat->Ac T->M (Ac T)
 | .n,_,st=> .ret st
 | .c _ _ r,i,st=>Qm r i st
 | .j _ _ _ r,i,st=>Qm r i st
 | .q _ _ r,i,st=>Qm r i st
 | .u _ _ _ _ _ r,i,st=>Qm r i st
 | .t r,i,st=>Qm r i st
 | .g k g r,i,st=>match Nat.beq k i with
   | true=> .y_ (dgh g st) (Qm r i)
   | false=>Qm r i st
theorem Aae {H:Aq T} {st:Ac T} (hw:Ay H st) (g:Gh):Yl (dgh g st) (fun an=>(∃ H',Nx H st H' an)/\an.pre=st.pre/\Wk st.toSt an.toSt):=by cases g<;>grind [zR,rH,Yl.ret,zW,dgh,oM,Yl.no]
theorem Eu (i:Nat): ∀ (il:Hl) {H:Aq T} {st:Ac T},Ay H st->Yl (Qm il i st) (fun an=>(∃ H',Nx H st H' an)/\an.pre=st.pre/\Wk st.toSt an.toSt)
 | .n,H,st,hw=>Yl.ret ⟨⟨H,Nx.refl hw⟩,rfl,Wk.less (B0.refl _)⟩
 | .c _ _ r,H,st,hw=>Eu i r hw
 | .j _ _ _ r,H,st,hw=>Eu i r hw
 | .q _ _ r,H,st,hw=>Eu i r hw
 | .u _ _ _ _ _ r,H,st,hw=>Eu i r hw
 | .t r,H,st,hw=>Eu i r hw
 | .g k g r,H,st,hw=>by
   unfold Qm;split
   ·refine Yl.y_ (Aae hw g) fun s hs=>?_;obtain⟨⟨H1,n1⟩,p1,w1⟩:=hs;refine(Eu i r n1.ok).mono fun s' hs'=>?_;obtain⟨⟨H2,n2⟩,p2,w2⟩:=hs';exact⟨⟨H2,n1.trans n2⟩,p2.trans p1,w1.trans w2⟩
   ·exact Eu i r hw
def jq (st:Ac T) (xs:List Operand):List Ad:=match FY st [] xs with
 | some vs=>Om vs
 | none=>[]
theorem JL: ∀ {l:List Ad} {st:Ac T} {H:Aq T},Ay H st->(D3 l st).pre =st.pre
 | [],_,_,_=>rfl
 | i::r,st,H,h=>by
   unfold D3;split
   ·rename_i s hs;obtain⟨⟨H1,a⟩,_,_,b⟩:=Ac.acG h hs;rw [JL a.ok,b]
   ·exact JL h
theorem El.wk {P:Program} {I:World->Prop} {o:Oper} {A B:St} {K:St->Prop} (hk:Wk A B) (h:El P I o B K):El P I o A K:=fun F a w G Q hI hR=>by obtain⟨G',q⟩:=hk F a w G hR;exact h F a w G' Q hI q
def jr (st:Ac T):List (Nat×Operand)->List Ad
 | []=>[]
 | p::r=>jq st [p.2]++jr st r
def dbf (P:Program) (o:Oper) (st:Ac T):M (Ac T):=match o.op with
 | .buildSlice _ _ ps=>oc P (D3 (jr st ps.toList) st) o
 | _=> .no
theorem Aaf {H:Aq T} {P:Program} {I:World->Prop} {st:Ac T} (hw:Ay H st) {o:Oper}:Yl (dbf P o st) (fun an=>(∃ H',Nx H st H' an)/\an.pre=st.pre/\ ∀ K:St->Prop,K an.toSt->El P I o st.toSt K):=by
 unfold dbf;split
 ·rename_i ps hop;obtain⟨⟨H1,n1⟩,w1⟩:=Eh (l:=jr st ps.toList) (Nx.refl hw);refine(SG n1.ok o).mono fun an h=>?_;obtain⟨⟨H2,n2⟩,h2,h3,h4⟩:=h;refine⟨⟨H2,n1.trans n2⟩,h4.trans (JL hw),fun K hK=>El.wk w1 fun F a w G Q hI hR=>?_⟩;obtain⟨nx,w',G',q1,q2⟩:=(NZ hR h2).out;unfold Oper.wp Oper.upon;rw [q1];rcases q2 with ⟨v,rfl,q3⟩ | ⟨rfl,q3⟩
  ·exact⟨_,G',hK,q3.less h3⟩
  ·exact⟨_,G',hK,q3.less h3⟩
 ·exact Yl.no
def dsp {P:Program} {I:World->Prop} (Γ:List (CE T P I)) (o:Oper) (st:Ac T):Sp->M (Ac T)
 | .co =>match BC o.op,o.dst with
   | .call f xs,some d=>jg Γ (D3 (jq st xs) st) f xs d
   | _,_=> .no
 | .au => .no
 | .sub md=>wl P o md st
 | .clr =>zP P o st
 | .apb =>zQ P o st
 | .dlx =>dlx P o st
 | .dsa =>dsa P o st
 | .dse =>dse P o st
 | .mk =>dmk P o st
 | .ss =>B2 P o st
 | .ins =>zX Γ o st
 | .bf =>dbf P o st
 | .sb =>dsb P o st
 | .mld =>zY P o st
 | .mix =>zZ P o st
 | .mst =>z5 P o st
 | .lz => .no
 | .by_ =>dby P o st
 | .ga =>dga P o st
 | .gl =>dgl Γ o st
 | .ad =>dad P o st
 | .cp =>dcp P o st
theorem Aag {H:Aq T} {P:Program} {I:World->Prop} {Γ:List (CE T P I)} {st:Ac T} (hw:Ay H st) (o:Oper) (sp:Sp):Yl (dsp Γ o st sp) (fun an=>(∃ H',Nx H st H' an)/\an.pre=st.pre/\ ∀ K:St->Prop,K an.toSt->El P I o st.toSt K):=by
 cases sp with
 | co=>
   unfold dsp;simp only;split
   ·rename_i f xs d hk hd;obtain⟨⟨H1,n1⟩,w1⟩:=Eh (l:=jq st xs) (Nx.refl hw);refine(oJ n1.ok hk hd).mono fun s ⟨⟨H2,n2⟩,p2,k2⟩=>⟨⟨H2,n1.trans n2⟩,p2.trans (JL hw),fun K hK=>El.wk w1 (k2 K hK)⟩
   ·exact Yl.no
 | au=>exact Yl.no
 | sub md=>exact(mh hw).mono fun _ ⟨a,b,c⟩=>⟨a,b,fun K hK=>c.esc hK⟩
 | clr=>exact wm hw
 | apb=>exact wn hw
 | dlx=>exact(rG hw).mono fun _ ⟨a,b,c⟩=>⟨a,b,fun K hK=>c.esc hK⟩
 | dsa=>exact zN hw
 | dse=>exact zO hw
 | mk=>exact zU hw
 | ss=>exact zV hw
 | ins=>exact ww hw
 | bf=>exact Aaf hw
 | sb=>exact z9 hw
 | mld=>exact wx hw
 | mix=>exact wy hw
 | mst=>exact wz hw
 | lz=>exact Yl.no
 | by_=>exact z6 hw
 | ga=>exact z7 hw
 | gl=>exact z8 hw
 | ad=>exact Aac hw
 | cp=>exact Aad hw
def auL (P:Program) (st:Ac T) (o:Oper):Bool:=match o.op with
 | .load t x=>match st.arg [] x with
   | some (.c (.rp id _ _ _))=>DF id&&(Ck P t).isSome
   | _=>false
 | _=>false
def auS (st:Ac T) (o:Oper):Option Sp:=match o.op with
 | .store _ x y=>match st.arg [] x,st.arg [] y with
   | some (.c (.rp id _ _ _)),some v=>match DF id,v with
     | true, .c (.c (.l_ _))=>some .dsa
     | true, .agg _=>some .dse
     | true,_=>some .ss
     | false,_=>none
   | _,_=>none
 | _=>none
def wD {P:Program} {I:World->Prop} (Γ:List (CE T P I)) (ops:Array Oper) (o:Oper) (st:Ac T) (sp:Sp):M (Ac T):=match o.guard,sp with
 | none, .au =>match auL P st o,auS st o with
   | true,_=>dsp Γ o st .dlx
   | false,some sp=>dsp Γ o st sp
   | false,none=>dop Γ ops o st
 | none,sp=>dsp Γ o st sp
 | some _,_=> .no
theorem mr {H:Aq T} {P:Program} {I:World->Prop} {Γ:List (CE T P I)} {ops:Array Oper} {st:Ac T} (hw:Ay H st) (o:Oper) (sp:Sp):Yl (wD Γ ops o st sp) (rq H P I ops st o):=by have A: ∀ sp,o.guard=none->Yl (dsp Γ o st sp) (rq H P I ops st o):=fun sp hg=>(Aag hw o sp).mono fun s ⟨a,b,c⟩=>⟨a,b,fun K hK=>by unfold ZC;rw [hg];exact .inl (c K hK)⟩;unfold wD;grind [Z4,Yl.no]
def Qn (P:Program) (I:World->Prop) (ops:Array Oper):List Oper->St->(St->Prop)->Prop
 | [],st,K=> ∃ s,Wk st s/\K s
 | o::rest,st,K=> ∃ s,Wk st s/\ZC P I ops o s (fun an=>Qn P I ops rest an K)
theorem Vg {P:Program} {F:Fr} {ops:Array Oper} {Q:Exit->Act->World->Prop} {K:St->Prop} (hQ: ∀ an a' w' G',K an->R F an a' w' G'->Q .normal a' w'):
 ∀ (l:List Oper) (st:St) (a:Act) (w:World) (G:Ax),R F st a w G->Qn P F.I ops l st K->wpList P ops Q l a w
 | [],st,a,w,G,h,⟨s,hwk,hs⟩=>by obtain⟨G',h'⟩:=hwk _ _ _ _ h;exact hQ s a w G' hs h'
 | o::rest,st,a,w,G,h,⟨s,hwk,hs⟩=>by
   obtain⟨G',h'⟩:=hwk _ _ _ _ h;refine wpList_step fun K' hK'=>?_;have aec: ∀ a' w',hH F (fun an=>Qn P F.I ops rest an K) a' w'->K' a' w':=fun a' w' ⟨an,G',q,hR⟩=>
    hK' a' w' (Vg hQ rest an a' w' G' hR q)
   have:=XU (Q:=Q) h' hs;split at this
   ·rename_i hw;rw [if_pos hw];grind [Oper.wp_mono]
   grind
theorem Ak.ahL {P:Program} {F:Fr} {st:St} {id:Nat} {ops:Array Oper} {Q:Exit->St->Prop} (h:Qn P F.I ops ops.toList st (Q .normal)):Ak P F (.region id ops false) st Q:=
 fun _ _ G hR=>wp_region_list (Vg (K:=Q .normal) (fun an _ _ G' q hR'=>⟨an,G',q,hR'⟩) _ _ _ _ G hR h)
def oQ (T:AX):=(R:Type)->Code->Hn->Ac T->(Exit->Ac T->Option R)->Option R
def eN (P:Program) (I:World->Prop) (rec:oQ T):Prop:= ∀ (R:Type) (c:Code) (h:Hn) (st:Ac T) (H:Aq T) (K:Exit->Ac T->Option R) (r:R),Ay H st->rec R c h st K=some r->
 ∀ (F:Fr) (Q:Exit->St->Prop),F.I=I->(∀ H' e an,Nx H st H' an->K e an=some r->Q e an.toSt)->Ak P F c st.toSt Q
def SM:DV T->Option (FuncId×Bool×List (DC T))
 | .c (.c (.fn f))=>some (f,false,[])
 | .c (.clo b f cs)=>some (f,b,cs)
 | _=>none
def Mc (b:Bool) (ad0 vs:List (DV T)):List (DV T):=match b with
 | true=>ad0++vs
 | false=>vs++ad0
def oR:Option Nat->Nat
 | some d=>d
 | none=>0
def rQ (P:Program) (fn:Func) (o:Oper) (st:Ac T) (R:Type) (K:Ac T->Option R) (e:Exit) (stc:Ac T):Option R:=match e with
 | .normal =>rC P stc fn.results.toList R fun v=>match stc.back st o.dst v with
   | some s=>K s
   | none=>none
 | .ret =>rC P stc fn.results.toList R fun v=>match stc.back st o.dst v with
   | some s=>K s
   | none=>none
 | _=>none
def jt (P:Program) (rec:oQ T) (o:Oper) (h:Hn) (st:Ac T) (R:Type) (K:Ac T->Option R):Option R:=
 match o.op,o.guard with
 | .call c,none=>match c.callee with
   | .value x=>match SM (st.ev x),FY st [] c.args.toList with
     | some (f,b,cs),some vs=>match P.funcs[f]? with
       | some fn=>match fn.body with
         | some body=>match ent P f&&Nat.ble (Mc b (cs.map DV.c) vs).length fn.ntmps with
           | true=>rec R body h (st.enter (oR o.dst) (Mc b (cs.map DV.c) vs) fn.ntmps) (rQ P fn o st R K)
           | false=>none
         | none=>none
       | none=>none
     | _,_=>none
   | _=>none
 | _,_=>none
def kpt (ks:List Nat) (ke:List Ad):FG:=⟨ks,[],ke,[]⟩
def dgd (ops:Array Oper) (o:Oper) (st:Ac T):Option (List GL×Nat):=match o.guard,o.dst with
 | some (j,want),some d=>match UR st ops j want with
   | some key=>some (key,d)
   | none=>none
 | _,_=>none
def Sa (key:List GL):List Operand->Ac T->Ac T
 | [],st=>st
 | .tmp t::r,st=>match st.get t with
   | .g k v=>match Nh k key with
     | true=>Sa key r (st.put (some t) v)
     | false=>Sa key r st
   | _=>Sa key r st
 | _::r,st=>Sa key r st
def rR (o:Oper):List Operand:=match o.op with
 | .call c=>c.args.toList
 | _=>[]
theorem JM {key:List GL} (hc:AO key=true): ∀ {l:List Operand} {H:Aq T} {st:Ac T},Ay H st->DJ H st.nx key->(∃ H',Nx H st H' (Sa key l st))/\(Sa key l st).pre =st.pre/\ ∀ F a w G,R F st.toSt a w G->R F (Sa key l st).toSt a w G
 | [],H,st,hw,_=>⟨⟨H,Nx.refl hw⟩,rfl,fun _ _ _ _ h=>h⟩
 | .tmp t::r,H,st,hw,hk=>by
   unfold Sa;split
   ·rename_i k v hg;split
    ·rename_i hs;have hok:=Ac.acW hw t;rw [hg]at hok;simp only [DV.ok]at hok;have hck:=K2 hs hok.1 hk hc;obtain⟨H1,n1⟩:=Ac.O_ hw (some t) (hok.2 hck);have hk1:DJ H1 (st.put (some t) v).nx key:=fun l hl=>GL.aa1 n1.ext n1.le (hk l hl);obtain⟨⟨H2,n2⟩,p2,h2⟩:=JM (l:=r) hc n1.ok hk1;refine⟨⟨H2,n1.trans n2⟩,p2.trans (AH _ _ _),fun F a w G hR=>h2 F a w G ?_⟩;rw [Ac.d_];refine hR.aci ?_;have hsl:Aa w G (st.toSt.get t) (a.tmps.getD t Go.undef):=hR.slots t;rw [st.aaa t,hg]at hsl;simp_all [DV.toV,Aa]
    ·exact JM hc hw hk
   ·exact JM hc hw hk
 | .const _::r,H,st,hw,hk=>by unfold Sa;exact JM hc hw hk
 | .func _::r,H,st,hw,hk=>by unfold Sa;exact JM hc hw hk
 | .global _::r,H,st,hw,hk=>by unfold Sa;exact JM hc hw hk
def Vh {P:Program} {I:World->Prop} (Γ:List (CE T P I)) (rec:oQ T) (ops:Array Oper) (il:Hl):List Oper->Nat->Ac T->(R:Type)->(Ac T->Option R)->Option R
 | [],k,st,R,K=>Qm il k st R K
 | o::rest,k,st,R,K=>Qm il k st R fun st=>match I7 il k with
   | .n =>dop Γ ops o st R fun an=>Vh Γ rec ops il rest (k+1) an R K
   | .q sp=>wD Γ ops o st sp R fun an=>Vh Γ rec ops il rest (k+1) an R K
   | .c h=>jt P rec o h st R fun an=>Vh Γ rec ops il rest (k+1) an R K
   | .j sh h=>jn (fun v:RT T sh.ts=>match sh.inst st (BQ sh.ts v)with
    | some s=>Vh Γ rec ops il rest (k+1) s R K
    | none=>none) (fun j=>jt P rec o h st R fun b=>match sh.gen st b with
    | some v=>j v
    | none=>none)
   | .u ks ke kd h=>match L6 kd,dgd ops o st with
    | true,some (key,d)=>jn (fun x:L5 T.den kd=>Vh Γ rec ops il rest (k+1) (((kpt ks ke).base st).put (some d) (.g key (.c (.k kd x)))) R K)
     (fun j=>if AO key=true then jt P rec {o with guard:=none} h (Sa key (rR o) st) R fun b=>match (kpt ks ke).gen st b,Z0 kd (b.get d)with
      | some _,some x=>j x
      | _,_=>none
     else j (yA T kd))
    | _,_=>none
section
variable {H:Aq T} {P:Program} {I:World->Prop} {Γ:List (CE T P I)} {rec:oQ T} {st:Ac T} {ops:Array Oper}
theorem RD {n:Nat} {a b:List (DV T)} (h:B7 H n a) (k:B7 H n b):B7 H n (a++b):=(by grind [K0])
theorem RE (a b:List (DV T)):AQ (a++b)=AQ a++AQ b:=by simp [KZ]
theorem Yz (cs:List (DC T)):AQ (cs.map DV.c)=(Ap cs).map V.c:=by simp_all [KZ,BT,DV.toV]
theorem Ow (o_:eN P I rec) (hw:Ay H st) {o:Oper} {h:Hn} {R:Type} {K:Ac T->Option R} {r:R} (hr:jt P rec o h st R K=some r)
 {PK:St->Prop} (hK: ∀ H' an,Nx H st H' an->an.pre=st.pre->K an=some r->PK an.toSt):o.guard=none/\El P I o st.toSt PK:=by
 unfold jt at hr;split at hr
 ·rename_i c hop hgd;refine⟨hgd,?_⟩;split at hr
  ·rename_i x aaD;split at hr
   ·rename_i f b cs vs hf hvs;split at hr
    ·rename_i fn hfn;split at hr
     ·rename_i body aiG;split at hr
      ·rename_i hm;simp only [and_eq_true,ble_eq]at hm;obtain⟨aao,hlen⟩:=hm;obtain⟨a1,a2,a3⟩:=Cy (key:=[]) hw (I3 _ _) rfl hvs;change (st.toSt.args true c.args.toList).1 at a2;change (st.toSt.args true c.args.toList).2=AQ vs at a3;have hev:=Ac.afW hw x;have al5:=st.aat x;have hcs:Bx cs:=by
        unfold SM at hf;split at hf
        ·simp only [injEq,Prod.mk.injEq]at hf;obtain⟨rfl,rfl,rfl⟩:=hf;simp [Bx]
        ·rename_i b' f' Tk he;simp only [injEq,Prod.mk.injEq]at hf;obtain⟨rfl,rfl,rfl⟩:=hf;grind [DV.ok,DC.ok]
        ·cases hf
       have aiF:B7 H st.nx (cs.map DV.c):=K0.2 fun v hv=>by obtain⟨d,h1,rfl⟩:=mem_map.1 hv;grind [DV.ok,Cp]
       have aas:B7 H st.nx (Mc b (cs.map DV.c) vs):=by
        cases b
        ·exact RD a1 aiF
        ·exact RD aiF a1
       obtain⟨H1,n1⟩:=rB hw (oR o.dst) fn.ntmps aas;have IN:=jd (st:=st) (k:=oR o.dst) hlen;have hm:st.toSt.tm.length=st.m:=A7 _ _;have main: ∀ w0 av Tc gv,Ak P ⟨w0,av,Tc,I,gv⟩ body (st.toSt.enter (oR o.dst) (AQ (Mc b (cs.map DV.c) vs)) fn.ntmps) (inQ P fn.results.toList st.toSt.tm.length st.toSt.pre o.dst PK):=by
        intro w0 av Tc gv;rw [<-IN];refine o_ _ _ _ _ _ _ _ n1.ok hr ⟨w0,av,Tc,I,gv⟩ _ rfl fun H' e stc hN hE=>?_;have fin:rC P stc fn.results.toList R (fun v=>match stc.back st o.dst v with | some s=>K s | none=>none)=some r->
         (BO P stc.toSt fn.results.toList).1/\PK (stc.toSt.back st.toSt.tm.length st.toSt.pre o.dst (BO P stc.toSt fn.results.toList).2):=by
         intro hE;obtain⟨v,⟨v1,v2,v3⟩,hE⟩:=wg hN.ok fn.results.toList R _ r hE;split at hE
         ·rename_i s hs;obtain⟨⟨H2,b1⟩,b2,b3⟩:=oE (n1.trans hN) v1 hs;refine⟨v2,?_⟩;have:=hK H2 s b1 b3 hE;rw [b2]at this;rw [v3,hm];exact this
         ·cases hE
        cases e<;>simp only [inQ]<;>first
         | exact fin hE
         | grind [rQ]
       cases b with
       | false=>
         have hcv:SA st.toSt x=some (f,Ap cs):=by
          unfold SA;rw [al5];unfold SM at hf;split at hf
          ·rename_i f' he;simp only [injEq,Prod.mk.injEq]at hf;obtain⟨rfl,_,rfl⟩:=hf;grind [DV.toV,DC.toC,Ap]
          ·rename_i b' f' Tk he;simp only [injEq,Prod.mk.injEq]at hf;obtain⟨rfl,rfl,rfl⟩:=hf;grind [DV.toV,DC.toC]
          ·cases hf
         refine El.inline (oR o.dst) hop aaD rfl (s:=(st.toSt.args true c.args.toList).1) (vs:=AQ vs) (by rw [<-a3]) a2 hcv aao hfn aiG rfl (rs:=fn.results.toList) (by simp) ?_;grind [Mc,RE,Yz]
       | true=>
         have hcv:st.toSt.ev x= .c (.bmv f (Ap cs)):=by
          rw [al5];unfold SM at hf;split at hf
          ·simp at hf
          ·rename_i b' f' Tk he;simp only [injEq,Prod.mk.injEq]at hf;obtain⟨rfl,rfl,rfl⟩:=hf;grind [DV.toV,DC.toC]
          ·cases hf
         refine El.ahT (oR o.dst) hop aaD rfl (s:=(st.toSt.args true c.args.toList).1) (vs:=AQ vs) (by rw [<-a3]) a2 hcv aao hfn aiG rfl (rs:=fn.results.toList) (by simp) ?_;grind [Mc,RE,Yz]
      ·cases hr
     ·cases hr
    ·cases hr
   ·cases hr
  ·cases hr
 ·cases hr
theorem wE {P:Program} {I:World->Prop} {ops:Array Oper} {PK:St->Prop} {A B:St} (h:Wk A B): ∀ {l:List Oper},Qn P I ops l B PK->Qn P I ops l A PK
 | [],⟨s,h1,h2⟩=>⟨s,h.trans h1,h2⟩
 | _::_,⟨s,h1,h2⟩=>⟨s,h.trans h1,h2⟩
theorem oS (sh:FG) {H:Aq T} {st:Ac T} (hw:Ay H st):B0 st.toSt (sh.base st).toSt :=by
 refine⟨?_,fun i=>?_,fun e he=>?_,fun _=>?_,⟨rfl,fun i=> .inr rfl⟩,rfl⟩
 ·show (Aw _ _).length =(Aw _ _).length;rw [A7,A7];rfl
 ·show (Aw st.m (E6 sh.ks st.tm)).getD i .undef = .undef \/(Aw st.m (E6 sh.ks st.tm)).getD i .undef =(Aw st.m st.tm).getD i .undef;rw [IV,IV];split
  ·rw [L8];split
   ·grind
   grind [DV.toV]
  grind
 ·obtain⟨d,hd,rfl⟩:=mem_map.1 he;exact mem_map.2 ⟨d,(E7 sh.ke st.so).1.subset hd,rfl⟩
 ·exact DR (FG.acI sh hw).ok
theorem rS {A B:St} (h:B0 A B) (d:Option Nat) (x:V):B0 (A.put d x) (B.put d x):=by
 cases d with
 | none=>exact h
 | some d=>
   refine⟨by simp [St.put,h.len],fun i=>?_,h.so,h.nd,h.gh,h.pre⟩;have hl:=h.len;have:=h.tm i;simp only [St.put,List.getD_eq_getElem?_getD,getElem?_set,hl]at this ⊢;grind
theorem rT {H:Aq T} {st:Ac T} {ops:Array Oper} {o:Oper} {key:List GL} {d:Nat} (hw:Ay H st) (h:dgd ops o st=some (key,d)): ∃ j want,o.guard=some (j,want)/\o.dst=some d/\F5 st.toSt ops j want=some (AO key)/\DJ H st.nx key:=by
 unfold dgd at h;split at h
 ·rename_i j want d' hg hd;split at h
  ·rename_i atj hk;simp only [injEq,Prod.mk.injEq]at h;obtain⟨rfl,rfl⟩:=h;grind [Lf]
  ·cases h
 ·cases h
theorem mu (o_:eN P I rec) (il:Hl): ∀ (l:List Oper) (k:Nat) (st:Ac T) (H:Aq T),Ay H st-> ∀ (R:Type) (K:Ac T->Option R) (r:R),Vh Γ rec ops il l k st R K=some r->
 ∀ PK:St->Prop,(∀ H' an,Nx H st H' an->an.pre=st.pre->K an=some r->PK an.toSt)->Qn P I ops l st.toSt PK
 | [],k,st,H,hw,R,K,r,hr,PK,hK=>by simp only [Vh]at hr;obtain⟨s,⟨⟨H1,n1⟩,p1,w1⟩,hr⟩:=Eu k il hw R _ r hr;exact⟨s.toSt,w1,hK H1 s n1 p1 hr⟩
 | o::rest,k,Tz,H,hw,R,K,r,hr,PK,hK=>by
   simp only [Vh]at hr;obtain⟨st,⟨⟨H0,n0⟩,p0,w0⟩,hr⟩:=Eu k il hw R _ r hr;refine⟨st.toSt,w0,?_⟩;replace hK: ∀ H' an,Nx H0 st H' an->an.pre=st.pre->K an=some r->PK an.toSt:=fun H' s n p q=>hK H' s (n0.trans n) (p.trans p0) q;replace hw:=n0.ok;have nxt: ∀ (H1:Aq T) (an:Ac T),Nx H0 st H1 an->an.pre=st.pre->Vh Γ rec ops il rest (k+1) an R K=some r->Qn P I ops rest an.toSt PK:=fun H1 an n1 p1 q=>
    mu o_ il rest (k+1) an H1 n1.ok R K r q PK fun H' s n p q=>hK H' s (n1.trans n) (p.trans p1) q
   split at hr
   ·obtain⟨an,⟨⟨H1,n1⟩,p1,w1⟩,hr⟩:=Z4 hw o R _ r hr;grind
   ·rename_i sp _;obtain⟨an,⟨⟨H1,n1⟩,p1,w1⟩,hr⟩:=mr hw o sp R _ r hr;grind
   ·rename_i h _;obtain⟨g1,g2⟩:=Ow (PK:=fun s=>Qn P I ops rest s PK) o_ hw hr fun H' s n p q=>nxt H' s n p q;simp only [ZC,g1];exact .inl g2
   ·rename_i sh h _;unfold jn at hr;obtain⟨g1,g2⟩:=Ow (PK:=fun s=> ∃ s',Wk s s'/\Qn P I ops rest s' PK) o_ hw hr fun H' s n p q=>by
     split at q
     ·rename_i v hg;dsimp only at q;split at q
      ·rename_i s' hi;obtain⟨H2,n2⟩:=FG.ab6 hw (Dm sh.ts v) hi;have hp:s'.pre=st.pre:=by
        unfold FG.inst at hi;split at hi
        ·rename_i s1 us h1;split at hi
         ·rename_i s2 us2 h2;injection hi with hi;subst hi;obtain⟨⟨Ha,na⟩,nb,_,_,np,_⟩:=HX (sh.acI hw) (Dm sh.ts v) h1;obtain⟨_,_,_,mp,_⟩:=JE na nb h2;rw [mp,np];rfl
         ·cases hi
        ·cases hi
       grind [FG.abU]
      ·cases q
     ·cases q
    simp only [ZC,g1];refine .inl ?_;intro F a w G Q hI hR;refine Oper.wp_mono (fun _ _ ⟨_,G',⟨s',hwk,hp⟩,hR'⟩=>?_) (g2 F a w G Q hI hR);obtain⟨G'',q⟩:=hwk _ _ _ _ hR';grind
   ·rename_i ks ke kd h _;split at hr
    ·rename_i key d hfk hdg;unfold jn at hr;dsimp only at hr;obtain⟨j,want,e1,e2,e3,e4⟩:=rT hw hdg;have main: ∀ x:L5 T.den kd,Vh Γ rec ops il rest (k+1) (((kpt ks ke).base st).put (some d) (.g key (.c (.k kd x)))) R K=some r->Qn P I ops rest (((kpt ks ke).base st).put (some d) (.g key (.c (.k kd x)))).toSt PK:=fun x q=>by have nb:=FG.acI (kpt ks ke) hw;obtain⟨H2,n2⟩:=I2 (st:=(kpt ks ke).base st) nb.ok e4 (some d) (v:= .c (.k kd x)) (by grind [DV.ok,DC.ok]);exact nxt H2 _ (nb.trans n2) (by rw [AH];rfl) q
     simp only [ZC,e1,e3];refine .inl ⟨fun hc=> .inl ?_,fun hc=>?_⟩
     ·rw [if_pos hc]at hr;obtain⟨⟨Hu,nu⟩,_,hu⟩:=JM (l:=rR o) hc hw e4;obtain⟨_,g2⟩:=Ow (PK:=fun s=> ∃ s',Wk s s'/\Qn P I ops rest s' PK) o_ nu.ok hr fun H' b n' _ q=>by
       have n:=nu.trans n';split at q
       ·rename_i v0 x hg hx;refine⟨_,?_,main x q⟩;have hwk:=FG.abU hw n hg (s1:=(kpt ks ke).base st) rfl;intro F a w G hR;obtain⟨G',q'⟩:=hwk F a w G hR;refine⟨G',?_⟩;rw [Ac.d_];refine q'.aci ?_;have hsl:Aa w G (b.toSt.get d) (a.tmps.getD d Go.undef):=hR.slots d;rw [b.aaa d,lV hx]at hsl;have hf:(AW T.enc kd x).flat =true:=by cases kd<;>first | rfl | cases hfk
        simp_all [DV.toV,DC.toC,Aa,AD]
       ·cases q
      intro F a w G Q hI hR;have g3:o.wp P a w (hH F fun s=> ∃ s',Wk s s'/\Qn P I ops rest s' PK) Q:=g2 F a w G Q hI (hu F a w G hR);grind [Oper.wp_mono,wE]
     ·rw [if_neg (by rw [hc];simp)]at hr;grind [rS,oS,Ac.d_,DV.toV]
    ·cases hr
end
abbrev Ho:FG:=⟨[],[],[],[]⟩
abbrev sgI:Sg:= .v (.k (.int .i64))
abbrev sgB:Sg:= .v (.k .bool)
abbrev Ci (n:Nat):Nat×VSp:=(n, .c sgI)
abbrev GE (n:Nat):Nat×VSp:=(n, .c sgB)
abbrev Md (n:Nat):Nat×VSp:=(n, .c (.v (.k .str)))
end Go.PL
namespace Go.PL
open Go Go.RowKit
variable {T:AX}
def fnl:DV T->Bool
 | .c (.k k _)=>L6 k
 | .c (.c (.l_ _))=>true
 | _=>false
theorem Aai {v:DV T} (h:fnl v=true) {w:World} {G:Ax} {a b:Value} (ha:Aa w G v.toV a) (hb:Aa w G v.toV b):a=b:=by
 unfold fnl at h;split at h
 ·rename_i k x;have hf:(AW T.enc k x).flat =true:=by cases k<;>first | rfl | cases h
  grind [DV.toV,DC.toC,Aa,AD]
 all_goals grind [DV.toV,DC.toC,Aa,Ab]
structure MD where
 i:Nat
 d:Nat
 x:Operand
 id:Ad
 off:Nat
 ag:Bool
 n:Nat
 te:Nat
 ts:Nat
def Sb (P:Program) (ops:Array Oper) (lz:List Nat) (H:Aq T) (nx:Nat) (q:MD):Prop:=
 ∃ o t cs,ops[q.i]? =some o/\o.op= .load t q.x/\o.dst=some q.d/\FW P t=some (q.ag,q.n)/\q.te<nx/\q.ts<nx/\(H.e q.te).id =q.id/\(H.e q.te).x = .box cs/\
   DZ q.ag q.off q.n cs.length=true/\H.v q.ts=Cd q.ag q.off q.n cs/\(fnl (H.v q.ts)=true\/q.i∈lz)
theorem Sb.nx {P:Program} {ops:Array Oper} {lz:List Nat} {H H':Aq T} {st an:Ac T} {q:MD} (h:Sb P ops lz H st.nx q) (hn:Nx H st H' an):Sb P ops lz H' an.nx q:=by obtain⟨o,t,cs,h1,h2,h3,h4,h5,h6,h7,h8,h9,h10,h11⟩:=h;have e1:=(hn.ext q.te h5).2;have e2:=(hn.ext q.ts h6).1;exact⟨o,t,cs,h1,h2,h3,h4,lt_of_lt_of_le h5 hn.le,lt_of_lt_of_le h6 hn.le,by grind,by grind,h9,by grind,by grind⟩
def oT (st:Ac T) (q:MD):Bool:=match st.ev q.x,EK st.so q.id,G8 st q.id with
 | .c (.c (.ptr id off)),some e,some _=>AP id q.id&&(Nat.beq off q.off&&(Nat.beq e.tag q.te&&(Nat.beq (T7 st.tm q.d) (q.ts+1)&&Nat.blt q.d st.m)))
 | _,_,_=>false
theorem RF {st:Ac T} {id:Ad} {cs:List (DC T)} (h:G8 st id=some cs): ∃ e,EK st.so id=some e/\e.x= .box cs:=by grind [G8,Ac.look]
section
variable {H:Aq T} {P:Program} {st:Ac T}
theorem YA {t:TypeId} {ag:Bool} {n:Nat} {id:Ad} {off:Nat} {cs:List (DC T)} (hw:Ay H st) (ht:FW P t=some (ag,n)) (hb:G8 st id=some cs) (ho:DZ ag off n cs.length=true):
 (Cd ag off n cs).ok H st.nx/\(CM P t st.toSt (.c (.ptr id off))).1/\(CM P t st.toSt (.c (.ptr id off))).2=(Cd (T:=T) ag off n cs).toV :=by
 have hd:=Uj (P:=P) (t:=t) (key:=[]) (v:=(.c (.c (.ptr id off)):DV T)) hw (by grind [DV.ok,DC.ok]) (DV T) some (Cd ag off n cs) (by simp only [dK,ht,hb,ho];rfl);obtain⟨v,h1,h2⟩:=hd;injection h2 with h2;subst h2;have:=h1 rfl;grind [DV.toV,DC.toC]
theorem SN (hw:Ay H st) {ops:Array Oper} {lz:List Nat} {q:MD} (hq:Sb P ops lz H st.nx q) (h:oT st q=true) {o:Oper} (ho:ops[q.i]? =some o) {F:Fr} {a:Act} {w:World} {G:Ax} (hR:R F st.toSt a w G):
 o.dst=some q.d/\ ∃ v,(q.i∈lz\/v=a.tmps.getD q.d Go.undef)/\Aa w G (st.toSt.tm.getD q.d .undef) v/\ ∀ w',Ca w w'->(execOp a.eval o).run P w'= .ok (.value v) w':=by
 obtain⟨o',t,cs,h1,h2,h3,h4,h5,h6,h7,h8,h9,h10,h11⟩:=hq;rw [h1]at ho;injection ho with ho;subst ho;unfold oT at h;split at h
 ·rename_i id off e Tk hev hlk hbx;simp only [and_eq_true,beq_eq,AE,blt_eq]at h;obtain⟨k1,k2,k3,k4,k5⟩:=h;subst k1 k2;obtain⟨e',l1,l2⟩:=RF hbx;rw [hlk]at l1;injection l1 with l1;subst l1;have hm:=(B8 hlk).1;have he:=(hw.so e hm).2.1;rw [k3]at he;rw [he,l2]at h8;injection h8 with h8;subst h8;obtain⟨m1,m2,m3⟩:=YA hw h4 hbx h9;have ada:=st.aat q.x;rw [hev]at ada;have ajA:st.toSt.arg true q.x=(True, .c (.ptr q.id q.off)):=by grind [St.arg,DV.toV,DC.toC]
  have hs:(CT P st.toSt true o'.op).1:=by rw [h2];show (rd P st.toSt true (.load t q.x)).1;simp_all [rd,y_]
  obtain⟨v,q1,q2⟩:=D9 hR rfl hs;have e2:(CT P st.toSt true o'.op).2=(Cd (T:=T) q.ag q.off q.n Tk).toV :=by rw [h2];show (rd P st.toSt true (.load t q.x)).2=_;grind [rd,y_]
  rw [e2]at q1;obtain⟨_,hv⟩:=T8 hw.tm k4;have ah4:st.get q.d=Cd q.ag q.off q.n Tk:=by unfold Ac.get;rw [show Nat.blt q.d st.m=true by simpa using k5];grind
  have hsl:=hR.slots q.d;have hg:st.toSt.tm.getD q.d .undef =(st.get q.d).toV :=st.aaa q.d;grind [Aai]
 ·cases h
theorem rU (hw:Ay H st) {ops:Array Oper} {lz:List Nat} {q:MD} (hq:Sb P ops lz H st.nx q) (h:oT st q=true) {o:Oper} (ho:ops[q.i]? =some o) (hc:CO o=1) {F:Fr} {a:Act} {w:World} {G:Ax} (hR:R F st.toSt a w G):om P (q.i∈lz) o a w:=by obtain⟨h1,v,h2,h3,h4⟩:=SN hw hq h ho hR;intro d hd;rw [h1]at hd;injection hd with hd;subst hd;exact⟨v,h2,(by grind)⟩
theorem rV {I:World->Prop} (hw:Ay H st) {o:Oper} (hk:BC o.op= .rd) {v:DV T} (hv:Rd H P st [] o.op v):zL P I o st.toSt (st.put o.dst v).toSt :=fun F a w G hI hR=>by obtain⟨h1,h2,h3⟩:=hv rfl;obtain⟨u,q1,q2⟩:=D9 hR rfl h2;change Aa w G (CT P st.toSt true o.op).2 u at q1;rw [show (CT P st.toSt true o.op).2=v.toV from h3]at q1;exact⟨u,G,q2,by rw [Ac.d_];exact hR.put q1⟩
end
def Aaj (P:Program) (z:Bool) (o:Oper) (i:Nat) (st:Ac T):Option (Ac T×MD):=match o.op,o.dst with
 | .load t x,some d=>match FW P t,st.ev x with
   | some (ag,n), .c (.c (.ptr id off))=>match G8 st id,EK st.so id with
     | some cs,some e=>match DZ ag off n cs.length&&(fnl (Cd ag off n cs)||z)with
       | true=>some (st.put (some d) (Cd ag off n cs),⟨i,d,x,id,off,ag,n,e.tag,st.nx⟩)
       | false=>none
     | _,_=>none
   | _,_=>none
 | _,_=>none
theorem wF {H:Aq T} {P:Program} {I:World->Prop} {st an:Ac T} (hw:Ay H st) {ops:Array Oper} {lz:List Nat} {z:Bool} {o:Oper} {i:Nat} {q:MD} (hz:z=true->i∈lz) (hi:ops[i]? =some o) (h:Aaj P z o i st=some (an,q)):
 ∃ H',Nx H st H' an/\an.pre=st.pre/\zL P I o st.toSt an.toSt/\Sb P ops lz H' an.nx q/\q.i=i:=by
 unfold Aaj at h;split at h
 ·rename_i t x d hop hd;split at h
  ·rename_i ag n id off ht hev;split at h
   ·rename_i cs e hbx hlk;split at h
    ·rename_i hb;simp only [and_eq_true,or_eq_true]at hb;injection h with h;injection h with h1 h2;subst h1 h2;obtain⟨m1,m2,m3⟩:=YA hw ht hbx hb.1;have he:=Ch.acx H st.nx (Cd (T:=T) ag off n cs);obtain⟨e',l1,l2⟩:=RF hbx;rw [hlk]at l1;injection l1 with l1;subst l1;obtain⟨k1,k2,k3⟩:=hw.so e (B8 hlk).1;have hnx:Nx H st (H.acx st.nx (Cd ag off n cs)) (st.put (some d) (Cd ag off n cs)):=by
      obtain⟨H',hn⟩:=Ac.O_ hw (some d) m1;refine⟨he,by simp [Ac.put],?_,?_,?_,hw.nd⟩
      ·intro s t' w' hm;simp only [Ac.put,mem_cons,Prod.mk.injEq]at hm ⊢;rcases hm with ⟨rfl,rfl,rfl⟩ | hm
       ·exact⟨Nat.lt_succ_self _,by simp [Aq.acx],DV.aa1 he (le_succ _) m1⟩
       ·exact Bn he (le_succ _) hw.tm s t' w' hm
      ·exact fun f hf=>Bn he (le_succ _) (hw.gh f hf)
      ·exact DM he (le_succ _) hw.so
     refine⟨_,hnx,AH _ _ _,?_,⟨o,t,cs,hi,hop,hd,ht,lt_of_lt_of_le k1 hnx.le,by simp [Ac.put],?_,?_,hb.1,by simp [Aq.acx],?_⟩,rfl⟩
     ·have hrd:Rd H P st [] o.op (Cd ag off n cs):=fun _=>by
       have ada:=st.aat x;rw [hev]at ada;have ajA:st.toSt.arg (AO []) x=(True, .c (.ptr id off)):=by grind [St.arg,DV.toV,DC.toC]
       rw [hop];refine⟨m1,?_,?_⟩
       ·show (rd P st.toSt (AO []) (.load t x)).1;simp_all [rd,y_]
       ·show (rd P st.toSt (AO []) (.load t x)).2=_;grind [rd,y_]
      have:=rV (I:=I) hw (by rw [hop];rfl) hrd;grind
     ·rw [(hnx.ext e.tag k1).2,k2];exact(B8 hlk).2.1
     all_goals grind [Aq.acx]
    ·cases h
   ·cases h
  ·cases h
 ·cases h
end Go.PL
set_option linter.all false
namespace Go.PL
open Go Go.RowKit
def Fr.acF (F:Fr) (b:Nat):Fr:=⟨F.w0,fun x=>F.av x/\x ≠ b,fun x=>F.Tc x\/x=b,F.I,F.gv⟩
def rW (F:Fr) (Tc:Nat->Prop):Prop:= ∀ w':World,F.w0.heap.size<=w'.heap.size->(∀ x,x<F.w0.heap.size-> ¬Tc x->w'.heap[x]? =F.w0.heap[x]?)->F.I w'
section
variable {F:Fr} {st:St} {a:Act} {w:World} {G:Ax}
theorem R.unnamed (h:R F st a w G) {b:Nat} (hav:F.av b) (j:Ad):G.blk j ≠ some b:=fun q=>by
 rcases h.new j b q with k | k
 ·have:=h.Tu b hav;omega
 ·exact h.Kq b k hav
theorem R.ani (h:R F st a w G) {b:Nat} (hav:F.av b) (hinv:rW F (fun x=>F.Tc x\/x=b)) (e:Ar) (nv:Option Value) (hp:e.pu=true->Al e.cs=true)
 (he:AN w (Bv (F.acF b) G e.id (some b) nv) (e.kill e.id)):R (F.acF b) (st.new e) a w (Bv (F.acF b) G e.id (some b) nv):=by
 have hun:=h.unnamed hav;have hwr:G.wr b:=(h.wr b).2 (.inl hav);have hbw:b<w.heap.size:=lt_of_lt_of_le (h.Tu b hav) h.hsize;have hk:BE G (Bv (F.acF b) G e.id (some b) nv) w w:=by
  refine⟨le_refl _,fun _ _ _=>rfl,fun x hx hw=>?_,fun _ _ _ _=>BU.same rfl⟩;simp only [Bv,Fr.acF]at hw;rcases hw with hw | ⟨i,hi⟩
  ·exact(h.wr x).2 (.inl hw.1)
  ·split at hi
   ·grind
   ·exact(h.wr x).2 (.inr ⟨i,hi⟩)
 refine {
  dfr:=h.dfr
  size:=by simp [St.new,St.kill,h.size]
  slots:=fun i=>?_
  t_:=?_
  store:=fun e' X_=>?_
  deep:=fun e' X_=>?_
  k_:=fun e' X_=>?_
  nodup:=?_
  inj:=fun i j x hi hj=>?_
  lt:=fun i x hi=>?_
  new:=fun i x hi=>?_
  wr:=fun _=>Iff.rfl
  Tu:=fun x hx=>h.Tu x hx.1
  inv:=hinv
  Kq:=fun x hx hy=>?_
  os:=h.os,tape:=h.tape,output:=h.output,hsize:=h.hsize
  ext:=fun x hx ho=>h.ext x hx fun q=>ho (.inl q)}
 ·simp only [St.new,St.kill];rw [D7 (by simp [DB,V.g_])];exact Aa.mono hk _ _ (by grind [CF,PD]) (PG (h.slots i))
 ·simp only [St.new,St.kill];exact Ao.mono hk _ _ (by grind [CF,M5]) (M4 h.t_)
 ·simp only [St.new,St.kill]at X_;rcases Gu X_ with ⟨rfl,_⟩ | X_
  ·exact he
  ·simp only [mem_map,mem_filter,and_eq_true]at X_;obtain⟨d,⟨hd,n_,_⟩,rfl⟩:=X_;have abD:d.id ≠ e.id:=by grind
   exact BN hk (CF (F:=F.acF b) (fun i hi X_=>by subst X_;rw [cA (h.k_ d hd)]at hi;cases hi)) (by grind [Bv,Ar.x_]) (fun _ _=>rfl) (XC (h.store d hd))
 ·simp only [St.new,St.kill]at X_;rcases Gu X_ with ⟨rfl,h1,h2⟩ | X_
  ·exact A8.ahD h1 h2
  ·simp only [mem_map,mem_filter,and_eq_true]at X_;obtain⟨d,⟨hd,n_,hmd⟩,rfl⟩:=X_;have abD:d.id ≠ e.id:=by grind
   have hmk:DF (d.kill e.id).id =true-> ∀ k,Bi k (d.kill e.id).id ≠ e.id:=by grind [Ar.x_,cx]
   exact A8.mono hk (by grind [Bv,Ar.x_]) (by grind [Bv]) (fun _ _=>rfl) (fun _ _ _ _=>rfl) (h.deep d hd).kill
 ·simp only [St.new,St.kill]at X_;rcases Gu X_ with ⟨rfl,_⟩ | X_
  ·exact LV hp
  ·simp only [mem_map,mem_filter]at X_;obtain⟨d,⟨hd,n_⟩,rfl⟩:=X_;exact LV (h.k_ d hd)
 ·have acS:List.Sublist (((st.new e).so.map (·.id))) (e.id::((st.so.filter (fun d=>d.id != e.id&& !(Cf e.id&&DF d.id))).map (·.id))):=by
   simp only [St.new,St.kill,QQ];split
   all_goals simp_all [Function.comp_def,Ar.x_]
  refine List.Sublist.nodup acS (nodup_cons.2 ⟨by grind,?_⟩);exact List.Sublist.nodup (by grind [filter_sublist]) h.nodup
 ·simp only [Bv]at hi hj;split at hi<;>split at hj
  ·simp_all
  ·grind
  ·grind
  ·exact h.inj i j x hi hj
 ·simp only [Bv]at hi;split at hi
  ·grind
  ·exact h.lt i x hi
 ·simp only [Bv]at hi;split at hi
  ·injection hi with hi;exact .inr (.inr hi.symm)
  ·exact(h.new i x hi).imp (fun q=>q) .inl
 ·rcases hx with q | q
  ·exact h.Kq x q hy.1
  ·exact hy.2 q
def Fr.take (F:Fr) (w1:World) (b:Nat) (G:Ax):Fr:=⟨w1,fun x=>F.av x\/x=b,fun x=> ∃ i,G.blk i=some x,F.I,F.gv⟩
theorem R.taken (h:R F st a w G) {w1:World} (ho:DD w w1) (hs:Ca w w1) {b:Nat} (hb:b=w.heap.size) (Tw:b<w1.heap.size) (hinv:rW (F.take w1 b G) (F.take w1 b G).Tc) {d:Nat} {v:Value} (hd:st.get d= .undef):
 ∃ G1,R (F.take w1 b G) st (a.put (some d) v) w1 G1:=by
 have hk:BE G (⟨G.blk,G.own,fun x=>(F.av x\/x=b)\/ ∃ i,G.blk i=some x⟩:Ax) w w1:=by
  refine⟨hs.size,fun x hx _=>hs.block x hx,fun x hx hw=>?_,fun i x h1 _=>BU.same (hs.block x (h.lt i x h1))⟩;rcases hw with (hw | hw) | hw
  ·exact(h.wr x).2 (.inl hw)
  ·omega
  ·exact(h.wr x).2 (.inr hw)
 have ag: ∀ S:Ad->Prop,GJ S G (⟨G.blk,G.own,fun x=>(F.av x\/x=b)\/ ∃ i,G.blk i=some x⟩:Ax):=fun _ _ _=>⟨rfl,rfl⟩;refine⟨⟨G.blk,G.own,fun x=>(F.av x\/x=b)\/ ∃ i,G.blk i=some x⟩,{
  dfr:=h.dfr
  size:=by simp [Act.put,h.size]
  slots:=fun i=>?_
  t_:=Ao.mono hk _ _ (ag _) h.t_
  store:=fun e he=>BN hk (ag _) ⟨rfl,rfl⟩ (fun x hx=>hs.block x (h.lt _ x hx)) (h.store e he)
  deep:=fun e he=>A8.mono hk ⟨rfl,rfl⟩ (by grind) (fun x hx=>hs.block x (h.lt _ x hx)) (fun _ _ x hx=>hs.block x (h.lt _ x hx)) (h.deep e he)
  k_:=h.k_,nodup:=h.nodup,inj:=h.inj
  lt:=fun i x hi=>lt_of_lt_of_le (h.lt i x hi) hs.size
  new:=fun i x hi=> .inr ⟨i,hi⟩
  wr:=fun _=>Iff.rfl
  Tu:=fun x hx=>?_
  inv:=hinv
  Kq:=fun x ⟨i,hi⟩ hx=>?_
  os:=rfl,tape:=rfl,output:=rfl,hsize:=le_refl _
  ext:=fun _ _ _=>rfl}⟩
 ·by_cases hi:d=i
  ·subst hi;have:st.tm.getD d .undef = .undef :=hd;grind [Aa]
  ·have e:(a.put (some d) v).tmps.getD i Go.undef=a.tmps.getD i Go.undef:=by simp_all [Act.put]
   rw [e];exact Aa.mono hk _ _ (ag _) (h.slots i)
 ·rcases hx with hx | hx
  ·exact lt_of_lt_of_le (h.Tu x hx) (le_trans h.hsize hs.size)
  ·show x<w1.heap.size;omega
 ·rcases hx with hx | hx
  ·exact h.unnamed hx i hi
  ·have:=h.lt i x hi;omega
end
structure H6 (F0 F:Fr) (D:List (Nat×Nat)):Prop where
 agc:F.I=F0.I
 gv:F.gv=F0.gv
 av: ∀ x,F.av x↔F0.av x\/ ∃ i,(i,x)∈D
 size:F0.w0.heap.size<=F.w0.heap.size
 kept: ∀ x,x<F0.w0.heap.size-> ¬F0.Tc x-> ¬F.Tc x/\F.w0.heap[x]? =F0.w0.heap[x]?
 Tc: ∀ x,F.Tc x->F0.w0.heap.size<=x\/F0.Tc x
 new: ∀ p∈D,F0.w0.heap.size<=p.2
 os:F.w0.os=F0.w0.os
 tape:F.w0.tape=F0.w0.tape
 output:F.w0.output=F0.w0.output
theorem H6.start (F:Fr):H6 F F []:=⟨rfl,rfl,fun x=>by simp,le_refl _,(by grind),fun _ h=> .inr h,(by grind),rfl,rfl,rfl⟩
def rX (F:Fr):Prop:=rW F F.Tc
section
variable {F0 F:Fr} {D:List (Nat×Nat)} {st:St} {a:Act} {w:World} {G:Ax}
theorem H6.back (t:H6 F0 F []) (hi:rX F0) (hd: ∀ x,F0.Tc x-> ¬F0.av x) (hl: ∀ x,F0.av x->x<F0.w0.heap.size) (h:R F st a w G):R F0 st a w G where
 dfr:=h.dfr
 size:=h.size
 slots:=h.slots
 t_:=by rw [<-t.gv];exact h.t_
 store:=h.store
 deep:=h.deep
 k_:=h.k_
 nodup:=h.nodup
 inj:=h.inj
 lt:=h.lt
 new:=fun i x hx=>by
  rcases h.new i x hx with q | q
  ·exact .inl (le_trans t.size q)
  ·exact t.Tc x q
 wr:=fun x=>by rw [h.wr,t.av];simp
 Tu:=hl
 inv:=hi
 Kq:=hd
 os:=h.os.trans t.os
 tape:=h.tape.trans t.tape
 output:=h.output.trans t.output
 hsize:=le_trans t.size h.hsize
 ext:=fun x hx ho=>by obtain⟨k1,k2⟩:=t.kept x hx ho;exact(h.ext x (by grind) k1).trans k2
theorem H6.ale (t:H6 F0 F D) (hi:rX F0) {Tc:Nat->Prop} (ho: ∀ x,x<F0.w0.heap.size-> ¬F0.Tc x-> ¬Tc x):rW F Tc:=fun w' hs hw=>by rw [t.agc];exact hi w' (le_trans t.size hs) fun x hx hx2=>(hw x (lt_of_lt_of_le hx t.size) (ho x hx hx2)).trans (t.kept x hx hx2).2
end
end Go.PL
set_option linter.all false
namespace Go.PL
open Go Go.RowKit
variable {T:AX}
def aD:C->Bool
 | .int .. =>true
 | .bool _=>true
 | .str _=>true
 | .aaJ =>true
 | .K_ =>true
 | .P_ =>true
 | .fn _=>true
 | .sl 0 []=>true
 | _=>false
theorem rY {c:C} (h:aD c=true) {w w':World} {G G':Ax} {v:Value} (hr:Ab w G c v):Ab w' G' c v:=by
 unfold aD at h;split at h
 all_goals simp_all [Ab]
theorem eO {w w':World} {G G':Ax}: ∀ {cs:List C} {vs:List Value},cs.all aD=true->Ae w G cs vs->Ae w' G' cs vs
 | [],[],_,_=>by simp [Ae]
 | [],_::_,_,h=>by simp [Ae]at h
 | _::_,[],_,h=>by simp [Ae]at h
 | c::cs,v::vs,h,hr=>by simp only [all_cons,and_eq_true]at h;simp only [Ae]at hr ⊢;exact⟨rY h.1 hr.1,eO h.2 hr.2⟩
theorem rZ {c:C} (h:aD c=true) (i:Ad):c.g_ i=false:=by
 unfold aD at h;split at h
 all_goals first
  | rfl
  | grind
theorem eP: ∀ {cs:List C},cs.all aD=true-> ∀ i,Bm i cs=false
 | [],_,_=>rfl
 | c::cs,h,i=>by simp only [all_cons,and_eq_true]at h;simp only [Bm,rZ h.1,eP h.2,Bool.or_self]
def sa (o:Oper):Bool:=match o.guard,o.dst,o.op with
 | none,some _, .alloc _=>true
 | none,some _, .buildSlice _ _ ps=>ps.toList.all fun p=>AU p.2
 | _,_,_=>false
def Qo:DX T->List C
 | .box cs=>Ap cs
 | .row E l=>l.flatMap (T.enc E)
 | .deep .. =>[]
def aE:DX T->Nat->Value
 | .row _ l,b=> .slice (some ⟨b,0,none⟩) l.length l.length
 | _,b=> .pointer (some ⟨b,0,none⟩)
def Vi:DX T->Ad->C
 | .row ..,id=> .l_ id
 | _,id=> .ptr id 0
def uS (P:Program) (st:Ac T) (o:Oper):Option (DX T):=match o.op with
 | .alloc t=>match Un P t with
   | some cs=>match (Ap cs).all aD with
     | true=>some (.box cs)
     | false=>none
   | none=>none
 | .buildSlice t len ps=>match Cw P t,EZ st [] ps.toList with
   | some (E,n,_),some vs=>match Nn P E with
     | some z=>match Rn (fun i=>some (i*n,n)) ((List.replicate len z).flatMap id) (vs.map fun x=>(x.1,P2 x.2))with
       | some cs=>match Il E len cs with
         | some l=>match (Nat.beq n (T.sz E)&&(Nat.beq z.length n&&(Nat.blt 0 n&&(Nat.ble (len*n) (2 ^ 24)&&Nat.beq cs.length (len*n)))))&&(Ap cs).all aD with
           | true=>some (.row E l)
           | false=>none
         | none=>none
       | none=>none
     | none=>none
   | _,_=>none
 | _=>none
theorem Ox {st an:Ac T}: ∀ {ps:List (Nat×Operand)},(ps.all fun p=>AU p.2)=true->EZ st [] ps=EZ an [] ps
 | [],_=>rfl
 | (i,x)::r,h=>by
   simp only [all_cons,and_eq_true]at h;have ih:=Ox (st:=st) (an:=an) h.2;have hx:st.arg [] x=an.arg [] x:=by
    cases x with
    | const v=>rfl
    | _=>cases h.1
   simp only [EZ,ih,hx]
theorem Qp {P:Program} {st an:Ac T} {o:Oper} (h:sa o=true):uS P st o=uS P an o:=by grind [sa,uS,Ox]
structure Aak (x:DX T) (arr:Array Value) (Tt:TypeId):Prop where
 ind:(Qo x).all aD=true
 rel: ∀ w G,Ae w G (Qo x) arr.toList
 row: ∀ E l,x= .row E l->Tt=E/\arr.size=l.length*T.sz E/\l.length<=maxLen
 nd: ∀ E n l h,x ≠ .deep E n l h
 ok:x.ok
theorem wG {P:Program} {H:Aq T} {st:Ac T} {o:Oper} {x:DX T} (hw:Ay H st) (h:uS P st o=some x) {F:Fr} {a:Act} {w:World} {G:Ax} (hR:R F st.toSt a w G):
 ∃ arr Tt,(execOp a.eval o).run P w= .ok (.value (aE x w.heap.size)) (w.alloc (.cells arr Tt))/\Aak x arr Tt:=by
 unfold uS at h;split at h
 ·rename_i t hop;split at h
  ·rename_i cs hz;split at h
   ·rename_i hi;injection h with h;subst h;obtain⟨z1,z2⟩:=K3 hz;obtain⟨i,z,hi1,hzv,hc⟩:=M6 z1;refine⟨z.cells,t,?_,hi,fun w G=>HP hc,(by grind),(by grind),z2⟩;simp_all [execOp,Instr.alloc,aap,newVar,newRow,aE]
   ·cases h
  ·cases h
 ·rename_i t len ps hop;split at h
  ·rename_i E n by' vs R_ hp;split at h
   ·rename_i z hz;split at h
    ·rename_i cs hf;split at h
     ·rename_i l hl;split at h
      ·rename_i hg;injection h with h;subst h;simp only [and_eq_true,beq_eq,blt_eq,ble_eq]at hg;obtain⟨⟨g1,g2,g3,g4,g5⟩,g6⟩:=hg;subst g1;obtain⟨p1,p2,p3⟩:=Ec (key:=[]) hw (fun _ hl=>by cases hl) rfl hp;obtain⟨z1,z2⟩:=FF hz;obtain⟨f1,_⟩:=Hd hf;rw [Np z (by omega),UC]at f1;change (st.toSt.parts true ps.toList).1 at p2;change (st.toSt.parts true ps.toList).2=dQ vs at p3;rw [<-p3]at f1;obtain⟨hlen,r,hr⟩:=De hl;have hrn:r=[]:=by have:=congrArg List.length hr;grind [AC,DI,AG,List.length_eq_zero_iff]
       subst hrn;rw [List.append_nil]at hr;obtain⟨Q_,q1,q2,q3,q4,q5⟩:=GU hR R_ z1 f1 p2 (by rw [AC];exact g2) g3 g4;refine⟨Q_,E,?_,by grind [Qo],(by grind [Qo,eO]),fun E' l' q=>?_,(by grind),trivial⟩
       ·simp_all [execOp,aE]
       grind
      ·cases h
     ·cases h
    ·cases h
   ·cases h
  ·cases h
 ·cases h
theorem oU {H:Aq T} {st s:Ac T} {x:DX T} {arr:Array Value} {Tt:TypeId} (hw:Ay H st) (hx:Aak x arr Tt) {F:Fr} {a:Act} {w:World} {G:Ax} (hR:R F st.toSt a w G) {b:Nat} (hav:F.av b) (hinv:rW F (fun y=>F.Tc y\/y=b))
 (hh:w.heap[b]? =some (.cells arr Tt (0,0))) {d:Nat} (hv:a.tmps.getD d Go.undef=aE x b) (hs:st.new (d::st.pre) x=some s): ∃ G',R (F.acF b) (s.put (some d) (.c (.c (Vi x (d::st.pre))))).toSt a w G':=by
 obtain⟨_,adz,_⟩:=Ac.aaK hw hx.ok hs;have m_:(⟨d::st.pre,0,x⟩:DE T).toE.cs =Qo x:=by
  unfold DE.toE;cases x with
  | box cs=>rfl
  | row E l=>rfl
  | deep E n l h=>exact absurd rfl (hx.nd E n l h)
 have hk:((⟨d::st.pre,0,x⟩:DE T).toE.kill (d::st.pre))=(⟨d::st.pre,0,x⟩:DE T).toE :=Ar.acC (by
  simp only [Ar.fre,or_eq_true,not_eq_true'];right;rw [m_];exact eP hx.ind _)
 have hr0: ∀ G',Ai w G' (Qo x) b 0:=fun G'=>Ai.U_ (hx.rel w G') (Bp hh (rest:=[]) (by grind));have key: ∃ nv:Option Value,(∀ G',AN w (Bv (F.acF b) G' (d::st.pre) (some b) nv) (⟨d::st.pre,0,x⟩:DE T).toE)/\(∀ G',Ab w (Bv (F.acF b) G' (d::st.pre) (some b) nv) (Vi x (d::st.pre)) (aE x b)):=by
  cases x with
  | box cs=>
    refine⟨none,fun G'=>cB rfl ⟨b,Tt,arr,by simp [Bv,DE.toE],hh,?_,hr0 _⟩,fun G'=>?_⟩
    ·have:(Ap cs).length =arr.toList.length:=(hx.rel w G).length;show arr.size=(Ap cs).length;grind
    ·simp only [Vi,aE,Ab];exact⟨b,by simp [Bv],rfl⟩
  | row E l=>
    obtain⟨e1,e2,e3⟩:=hx.row E l rfl;refine⟨some (.slice (some ⟨b,0,none⟩) l.length l.length),fun G'=>IR rfl ⟨?_,_,by simp [Bv,DE.toE], .inr ⟨b,l.length,arr,rfl,by simp [Bv,DE.toE],by grind,le_refl _,e3,e2,hr0 _⟩⟩,fun G'=>?_⟩
    ·show (l.flatMap (T.enc E)).length =_;grind [DI,AG]
    ·simp only [Vi,aE,Ab];exact⟨by simp [Bv],rfl⟩
  | deep E n l h=>exact absurd rfl (hx.nd E n l h)
 obtain⟨nv,k1,k2⟩:=key;have hid:(⟨d::st.pre,0,x⟩:DE T).toE.id =d::st.pre:=DE.toE_id _;have ac8:=hR.ani hav hinv (⟨d::st.pre,0,x⟩:DE T).toE nv (fun hp=>by
  cases x with
  | box cs=>cases hp
  | row E l=>exact CS _ (fun y=>by have:=Cz (T:=T) (.s E) y;grind [Dk,V.pure]) _
  | deep E n l h=>exact absurd rfl (hx.nd E n l h)) (by grind)
 rw [hid]at ac8;refine⟨Bv (F.acF b) G (d::st.pre) (some b) nv,?_⟩;rw [Ac.d_];refine(ac8.less adz).aci ?_;grind [DV.toV,DC.toC,Aa]
end Go.PL
set_option linter.all false
namespace Go.PL
open Go Go.RowKit
variable {T:AX}
def prI (acc:List (List Nat)) (d:List Nat) (i:Nat):List Nat:=(List.range i).filter fun j=>F7 d j||d.any fun k=>F7 (acc.getD k []) j
def AcF (ops:Array Oper):Nat->Nat->List (List Nat)->List (List Nat)
 | 0,_,acc=>acc
 | n+1,i,acc=>AcF ops n (i+1) (acc++[prI acc (dC ops i) i])
def AcG (ops:Array Oper):List (List Nat):=AcF ops ops.size 0 []
def Oy (ops:Array Oper) (v:List Bool) (i:Nat):Bool:= !bv v i&&(dC ops i).all (bv v)
theorem eQ {ops:Array Oper} {v:List Bool} (hv:v.length=ops.size):Region.ready .any ops v.toArray=(List.range ops.size).filter (Oy ops v):=by
 unfold Region.ready;refine List.filter_congr fun i hi=>?_;have hi:i<ops.size:=by grind
 have ho:ops[i]? =some ops[i]:=(by grind);unfold Oy dC;rw [ho];have e1:v.toArray.getD i true=bv v i:=by simp_all [bv]
 rw [e1];congr 1;simp only [Option.map_some,Option.getD_some];rw [Bool.eq_iff_iff];simp only [Array.all_eq_true_iff_forall_mem,or_eq_true,not_eq_true',all_eq_true,mem_map,mem_filter,forall_exists_index,and_imp,forall_apply_eq_imp_iff₂];constructor
 ·intro h x e he hb hx;subst hx;have:=h e (by simpa using he);simp_all [bv]
 ·intro h e he;cases hb:Region.binds .any e
  ·grind
  ·right;have:=h e.on e (by simpa using he) hb rfl;simp_all [bv]
def yF (ops:Array Oper) (v:List Bool):Option Nat:=(List.range ops.size).find? fun i=>Oy ops v i&& !Nat.beq (Lc ops i) 0
def ju (ops:Array Oper) (i:Nat):Bool:=match ops[i]? with
 | some o=>sa o
 | none=>false
def sd (ops:Array Oper) (v:List Bool):Option Nat:=match (List.range ops.size).filter fun i=>Oy ops v i&& !ju ops i with
 | [i]=>some i
 | []=>(List.range ops.size).find? fun i=>Oy ops v i&&ju ops i
 | _=>none
def Aal (ops:Array Oper) (pr:List (List Nat)) (v:List Bool) (i:Nat):Bool:=(List.range ops.size).all fun k=>bv v k||(Nat.beq k i||(ju ops k||(pr.getD k []).any fun j=> !bv v j&&(!ju ops j||Nat.beq j i)))
def isU:DV T->Bool
 | .u =>true
 | _=>false
def unM (ops:Array Oper) (v:List Bool) (st:Ac T):Bool:=(List.range ops.size).all fun k=>bv v k||match ops[k]? with
 | some o=> !sa o||match o.dst with
   | some d=>isU (st.get d)&&Nat.blt d st.m
   | none=>false
 | none=>true
def Vj (ops:Array Oper):Bool:=(List.range ops.size).all fun i=>(List.range ops.size).all fun j=>Nat.beq i j||match ops[i]?,ops[j]? with
 | some o,some o'=>match o.dst,o'.dst with
   | some d,some e=> !Nat.beq d e
   | _,_=>true
 | _,_=>true
def Vk (P:Program) (ops:Array Oper) (st:Ac T):Bool:=ops.toList.all fun o=> !sa o||(uS P st o).isSome
def oV:List Oper->Ac T->Ac T
 | [],st=>st
 | o::r,st=>match sa o with
   | true=>oV r (st.put o.dst .u)
   | false=>oV r st
def se (ops:Array Oper) (pr:List (List Nat)) (v:List Bool) (p:Nat):Bool:=(List.range ops.size).any fun k=>bv v k&&(Nat.beq (Lc ops k) 0&&F7 (pr.getD k []) p)
def Vl (ops:Array Oper) (pr:List (List Nat)) (v:List Bool) (pd:List MD) (st:Ac T):Bool:=
 (List.range ops.size).all fun p=> !bv v p||(!Nat.beq (Lc ops p) 1||(se ops pr v p||pd.any fun q=>Nat.beq q.i p&&oT st q))
def RG (ops:Array Oper) (pr:List (List Nat)) (lz:List Nat) (v:List Bool) (pd:List MD) (st:Ac T):Bool:=
 lz.all fun p=> !bv v p||(se ops pr v p||pd.any fun q=>Nat.beq q.i p&&oT st q)
def isN:HA->Bool
 | .n =>true
 | _=>false
def sf (o:Oper):Bool:=match o.op,o.guard,o.dst with
 | .buildSlice ..,none,some _=>true
 | _,_,_=>false
def si (o:Oper) (st:Ac T):Bool:=match o.dst with
 | some d=>Nat.blt d st.m
 | none=>false
def AcH (o:Oper):Bool:=match o.op with
 | .load .. =>true
 | _=>false
def AcI:HA->Option Bool
 | .q (.sub md)=>some md
 | _=>none
def AcJ (P:Program) (st:Ac T) (o:Oper):HA->Bool
 | .q .dlx =>true
 | .q .au =>auL P st o
 | _=>false
def opR {P:Program} {I:World->Prop} (Γ:List (CE T P I)) (rec:oQ T) (ops:Array Oper) (o:Oper) (st:Ac T) (h:HA) (R:Type) (K:Ac T->Option R):Option R:=match h with
 | .n =>dop Γ ops o st R K
 | .q sp=>wD Γ ops o st sp R K
 | .c h=>jt P rec o h st R K
 | .j sh h=>jn (fun v:RT T sh.ts=>match sh.inst st (BQ sh.ts v)with
  | some s=>K s
  | none=>none) (fun j=>jt P rec o h st R fun b=>match sh.gen st b with
  | some v=>j v
  | none=>none)
 | .u .. =>none
def I8 {P:Program} {I:World->Prop} (Γ:List (CE T P I)) (rec:oQ T) (ops:Array Oper) (pr:List (List Nat)) (lz:List Nat) (il:Hl):Nat->List Bool->List MD->Ac T->(R:Type)->(Ac T->Option R)->Option R
 | 0,v,pd,st,R,K=>match RG ops pr lz v pd st with
   | false=>none
   | true=>match (List.range ops.size).all (bv v)with
     | true=>Qm il ops.size st R K
     | false=>none
 | n+1,v,pd,st,R,K=>match RG ops pr lz v pd st with
   | false=>none
   | true=>match yF ops v with
     | some i=>match ops[i]? with
       | some o=>match Nat.beq (CO o) 2,si o st with
         | true,true=>IW P [] st o.op R fun u=>I8 Γ rec ops pr lz il n (v.set i true) pd (st.put o.dst u) R K
         | false,true=>match AcI (I7 il i),AcJ P st o (I7 il i),AcH o with
           | some md,_,_=>wl P o md st R fun an=>I8 Γ rec ops pr lz il n (v.set i true) pd an R K
           | none,true,_=>dlx P o st R fun an=>I8 Γ rec ops pr lz il n (v.set i true) pd an R K
           | none,false,false=>none
           | none,false,true=>match Aaj P (F7 lz i) o i st with
             | some (an,q)=>I8 Γ rec ops pr lz il n (v.set i true) (q::pd) an R K
             | none=>IW P [] st o.op R fun u=>I8 Γ rec ops pr lz il n (v.set i true) pd (st.put o.dst u) R K
         | _,_=>none
       | none=>none
     | none=>match sd ops v with
       | some i=>match ops[i]?,Aal ops pr v i&&unM ops v st with
         | some o,true=>match CO o,sa o with
           | 0,true=>match o.dst,uS P st o with
             | some d,some x=>match st.new (d::st.pre) x with
               | some s=>I8 Γ rec ops pr lz il n (v.set i true) pd (s.put (some d) (.c (.c (Vi x (d::st.pre))))) R K
               | none=>none
             | _,_=>none
           | 0,false=>match sf o&&isN (I7 il i)with
             | true=>oc P st o R fun an=>I8 Γ rec ops pr lz il n (v.set i true) pd an R K
             | false=>opR Γ rec ops o st (I7 il i) R fun an=>match Vl ops pr (v.set i true) pd an with
               | true=>I8 Γ rec ops pr lz il n (v.set i true) pd an R K
               | false=>none
           | _,_=>none
         | _,_=>none
       | none=>none
theorem sj {α:Type} {p:α->Bool} {l:List α} {x:α} (h:l.find? p=some x):x∈l/\p x=true:=(by grind)
theorem Ev (v:List Bool) (k:Nat):v.toArray.getD k false=bv v k:=by simp_all [bv]
theorem CA {v:List Bool} {i k:Nat} (hi:i<v.length):bv (v.set i true) k=(k==i||bv v k):=by simp only [bv,List.getD_eq_getElem?_getD,getElem?_set];grind
theorem Ln {o:Oper} (h:sa o=true):o.guard=none/\(∃ d,o.dst=some d)/\CO o=0:=by grind [sa,CO,Lb]
theorem H6.take {F0 F:Fr} {D:List (Nat×Nat)} {st:St} {a:Act} {w w1:World} {G:Ax} (t:H6 F0 F D) (h:R F st a w G) (ho:DD w w1) (hs:Ca w w1) (i:Nat):H6 F0 (F.take w1 w.heap.size G) ((i,w.heap.size)::D):=by
 have h1:=le_trans t.size h.hsize;refine⟨t.agc,t.gv,fun x=>?_,le_trans h1 hs.size,fun x hx hx2=>?_,fun x ⟨j,hj⟩=>?_,fun p hp=>?_,ho.os.trans (h.os.trans t.os),ho.tape.trans (h.tape.trans t.tape),ho.output.trans (h.output.trans t.output)⟩
 ·show F.av x\/x=w.heap.size↔_;rw [t.av];grind
 ·obtain⟨k1,k2⟩:=t.kept x hx hx2;refine⟨fun⟨j,hj⟩=>?_,?_⟩
  ·rcases h.new j x hj with q | q
   all_goals grind
  ·show w1.heap[x]? =_;rw [hs.block x (by omega),h.ext x (by grind) k1,k2]
 ·rcases h.new j x hj with q | q
  ·exact .inl (le_trans t.size q)
  ·exact t.Tc x q
 ·rcases mem_cons.1 hp with rfl | hp
  ·exact h1
  ·exact t.new p hp
theorem aF {α β:Type} {f:α->β}: ∀ {l:List α} {x y:α},(l.map f).Nodup ->x∈l->y∈l->f x=f y->x=y
 | a::l,x,y,h,hx,hy,e=>by
   rw [map_cons]at h;obtain⟨h1,h2⟩:=nodup_cons.1 h;rcases mem_cons.1 hx with q1 | q1<;>rcases mem_cons.1 hy with q2 | q2
   ·rw [q1,q2]
   ·subst q1;exact absurd (mem_map.2 ⟨y,q2,e.symm⟩) h1
   ·subst q2;exact absurd (mem_map.2 ⟨x,q1,e⟩) h1
   ·exact aF h2 q1 q2 e
theorem H6.acF {F0 F:Fr} {D:List (Nat×Nat)} {i b:Nat} (t:H6 F0 F D) (hi:(i,b)∈D) (n1:(D.map (·.1)).Nodup) (n2:(D.map (·.2)).Nodup) (hl: ∀ x,F0.av x->x<F0.w0.heap.size):H6 F0 (F.acF b) (D.filter fun p=>p.1 != i):=by
 have hb:=t.new _ hi;simp only at hb;refine⟨t.agc,t.gv,fun x=>?_,t.size,fun x hx hx2=>?_,fun x hx=>?_,fun p hp=>t.new p (by grind),t.os,t.tape,t.output⟩
 ·show F.av x/\x ≠ b↔_;rw [t.av];constructor
  ·rintro⟨q | ⟨j,q⟩,n_⟩
   ·exact .inl q
   ·refine .inr ⟨j,mem_filter.2 ⟨q,?_⟩⟩;have:j ≠ i:=fun e=>by subst e;have:=aF n1 q hi rfl;grind
    grind
  ·rintro(q | ⟨j,q⟩)
   ·grind
   ·obtain⟨q1,q2⟩:=mem_filter.1 q;refine⟨.inr ⟨j,q1⟩,fun e=>?_⟩;subst e;have:=aF n2 q1 hi rfl;grind
 ·obtain⟨k1,k2⟩:=t.kept x hx hx2;refine⟨fun q=>?_,k2⟩;rcases q with q | q
  all_goals grind
 ·rcases hx with q | q
  ·exact t.Tc x q
  grind
def sn (P:Program) (ops:Array Oper) (st:Ac T) (F:Fr) (a:Act) (p:Nat×Nat):Prop:=
 ∃ o d x arr Tt,ops[p.1]? =some o/\sa o=true/\o.dst=some d/\uS P st o=some x/\Aak x arr Tt/\F.w0.heap[p.2]? =some (.cells arr Tt (0,0))/\ ¬F.Tc p.2/\a.tmps.getD d Go.undef=aE x p.2
theorem sn.move {P:Program} {ops:Array Oper} {st an:Ac T} {F:Fr} {a a':Act} {p:Nat×Nat} (h:sn P ops st F a p) (ha: ∀ d o,ops[p.1]? =some o->o.dst=some d->a'.tmps.getD d Go.undef=a.tmps.getD d Go.undef):sn P ops an F a' p:=by obtain⟨o,d,x,arr,Tt,h1,h2,h3,h4,h5,h6,h7,h8⟩:=h;exact⟨o,d,x,arr,Tt,h1,h2,h3,by rw [Qp h2 (an:=st)];exact h4,h5,h6,h7,by rw [ha d o h1 h3];exact h8⟩
theorem AcK {P:Program} {ops:Array Oper} {st:Ac T} {F:Fr} {a:Act} {p:Nat×Nat} (h:sn P ops st F a p) {o:Oper} (ho:ops[p.1]? =some o):CO o=0:=by obtain⟨o',_,_,_,_,h1,h2,_⟩:=h;simp_all [Ln]
theorem E9 {ops:Array Oper} (h:Vj ops=true) {i j:Nat} {o o':Oper} {d e:Nat} (hi:ops[i]? =some o) (hj:ops[j]? =some o') (n_:i ≠ j) (hd:o.dst=some d) (he:o'.dst=some e):d ≠ e:=by
 simp only [Vj,all_eq_true,mem_range]at h;have:=h i (Array.getElem?_eq_some_iff.1 hi).1 j (Array.getElem?_eq_some_iff.1 hj).1;simp only [hi,hj,hd,he,or_eq_true,beq_eq,not_eq_true']at this;rcases this with q | q
 ·grind
 ·intro e';simp_all
def wH (n:Nat) (v:List Bool):List Nat:=(List.range n).filter fun k=> !bv v k
theorem sq: ∀ {l l':List Nat},l.Nodup->(∀ x∈l,x∈l')->l.length<=l'.length
 | [],_,_,_=>Nat.zero_le _
 | a::l,l',h,hs=>by obtain⟨h1,h2⟩:=nodup_cons.1 h;have ha:=hs a (by simp);have:=sq (l:=l) (l':=l'.erase a) h2 (by grind);grind
theorem Aam (n:Nat) (v:List Bool):(wH n v).Nodup :=List.Sublist.nodup filter_sublist List.nodup_range
theorem SO {n:Nat} {v:List Bool} {i:Nat} (hv:v.length=n) (hi:i<n) (hu:bv v i=false):(wH n (v.set i true)).length +1<=(wH n v).length :=by
 have:=sq (l:=i::wH n (v.set i true)) (l':=wH n v) (nodup_cons.2 ⟨fun h=>?_,Aam _ _⟩) fun x hx=>?_
 ·grind
 ·have:=(mem_filter.1 h).2;grind [CA]
 ·rcases mem_cons.1 hx with rfl | hx
  ·exact mem_filter.2 ⟨by simpa using hi,by rw [hu];rfl⟩
  ·obtain⟨h1,h2⟩:=mem_filter.1 hx;rw [CA (by omega)]at h2;exact mem_filter.2 ⟨h1,by simp only [not_eq_true',or_eq_false_iff]at h2 ⊢;exact h2.2⟩
section
variable {H:Aq T} {P:Program} {I:World->Prop} {Γ:List (CE T P I)} {rec:oQ T} {st:Ac T} {ops:Array Oper} {pr:List (List Nat)} {lz:List Nat} {F0:Fr}
theorem Aan (o_:eN P I rec) (hw:Ay H st) {o:Oper} {h:HA} {R':Type} {K:Ac T->Option R'} {r:R'} (hr:opR Γ rec ops o st h R' K=some r) {PK:St->Prop}
 (hK: ∀ H' an,Nx H st H' an->K an=some r->PK an.toSt):ZC P I ops o st.toSt (fun s=> ∃ s',Wk s s'/\PK s'):=by
 have refl: ∀ s:St,Wk s s:=fun s=>Wk.less (B0.refl s);unfold opR at hr;split at hr
 ·obtain⟨an,⟨⟨H1,n1⟩,_,w1⟩,hr⟩:=Z4 hw o R' _ r hr;grind
 ·obtain⟨an,⟨⟨H1,n1⟩,_,w1⟩,hr⟩:=mr hw o _ R' _ r hr;grind
 ·obtain⟨g1,g2⟩:=Ow (PK:=fun s=> ∃ s',Wk s s'/\PK s') o_ hw hr fun H' s n _ q=>⟨_,refl _,hK H' s n q⟩;simp only [ZC,g1];exact .inl g2
 ·rename_i sh h;unfold jn at hr;obtain⟨g1,g2⟩:=Ow (PK:=fun s=> ∃ s',Wk s s'/\PK s') o_ hw hr fun H' s n _ q=>by
   split at q
   ·rename_i v hg;dsimp only at q;split at q
    ·rename_i s' hi;obtain⟨H2,n2⟩:=FG.ab6 hw (Dm sh.ts v) hi;grind [FG.abU]
    ·cases q
   ·cases q
  simp only [ZC,g1];exact .inl g2
 ·cases hr
theorem AcL {o:Oper} (hb:sf o=true) {s:St} (h1:(ef P st.toSt o).1) (h2:B0 (ef P st.toSt o).2 s) {F:Fr} {a:Act} {w:World} {G:Ax} (hR:R F st.toSt a w G) {Q:Exit->Act->World->Prop}:
 o.wp P a w (fun a' w'=>Ca w w'/\ ∃ G',R F s a' w' G') Q:=by
 unfold sf at hb;split at hb
 ·rename_i t len ps d hop hg hd;obtain⟨dst,op,ty,pos,aft,gd⟩:=o;simp only at hop hg hd;subst hop hg hd;have h1':(AS P st.toSt d t len ps.toList).1:=h1;have h2':B0 (AS P st.toSt d t len ps.toList).2 s:=h2;obtain⟨r,w',G',q1,q2⟩:=HR hR h1';have:=P5 hR h1' q1;unfold Oper.wp;have h_:(execOp a.eval ⟨some d, .buildSlice t len ps,ty,pos,aft,none⟩).run P w= .ok (.value r) w':=by simp [execOp,q1]
  rw [h_];exact⟨this,G',q2.less h2'⟩
 ·cases hb
structure Fy (P:Program) (ops:Array Oper) (pr:List (List Nat)) (F0:Fr) (v:List Bool) (st:Ac T) (m:Nat) (L:List Bool) (D:List (Nat×Nat)) (F:Fr) (a:Act) (w:World) (G:Ax):Prop where
 hv:v.length=ops.size
 hL:L.length=ops.size
 hb: ∀ k,bv L k=(bv v k||D.any fun p=>p.1==k)
 hdc:rk pr L.toArray
 n1:(D.map (·.1)).Nodup
 n2:(D.map (·.2)).Nodup
 hD: ∀ p∈D,p.1<ops.size/\bv v p.1=false/\sn P ops st F a p
 ht:H6 F0 F D
 hc:(wH ops.size v).length <=m+D.length
 hR:R F st.toSt a w G
structure Fx (P:Program) (ops:Array Oper) (pr:List (List Nat)) (lz:List Nat) (F0:Fr) (v:List Bool) (st:Ac T) (m:Nat) (L:List Bool) (D:List (Nat×Nat)) (F:Fr) (a:Act) (w:World) (G:Ax):Prop extends Fy P ops pr F0 v st m L D F a w G where
 hS:WM P ops pr lz L.toArray a w
variable {v L:List Bool} {m:Nat} {D:List (Nat×Nat)} {F:Fr} {a:Act} {w:World} {G:Ax}
theorem Me {D:List (Nat×Nat)} {k:Nat}:(D.any fun p=>p.1==k)=true↔ ∃ b,(k,b)∈D:=by grind
theorem Fx.pos (h:Fx P ops pr lz F0 v st m L D F a w G) {i:Nat} (hi:i<ops.size) (hu:bv v i=false) (hn: ∀ b,(i,b)∉D):1<=m:=by
 have:=sq (l:=i::D.map (·.1)) (l':=wH ops.size v) (nodup_cons.2 ⟨fun q=>?_,h.n1⟩) fun x hx=>?_
 ·have h2:=h.hc;grind
 ·grind
 ·rcases mem_cons.1 hx with rfl | hx
  ·exact mem_filter.2 ⟨by simpa using hi,by rw [hu];rfl⟩
  ·obtain⟨p,hp,rfl⟩:=mem_map.1 hx;obtain⟨h1,h2,_⟩:=h.hD p hp;exact mem_filter.2 ⟨by simpa using h1,by rw [h2];rfl⟩
theorem Fx.rdy (h:Fx P ops pr lz F0 v st m L D F a w G) {i:Nat} (hi:i<ops.size) (hr:Oy ops v i=true) (hn: ∀ b,(i,b)∉D):i∈Region.ready .any ops L.toArray:=by rw [eQ h.hL];simp only [Oy,and_eq_true,not_eq_true',all_eq_true]at hr;refine mem_filter.2 ⟨by grind,?_⟩;simp only [Oy,and_eq_true,not_eq_true',all_eq_true];refine⟨?_,fun x hx=>by rw [h.hb,hr.2 x hx];rfl⟩;rw [h.hb,hr.1,Bool.false_or];grind
theorem Fx.akJ (hp:ZR ops pr=true) (h:Fx P ops pr lz F0 v st m L D F a w G) {j:Nat} (hj:j∈Region.ready .any ops L.toArray):j<ops.size/\bv L j=false/\bv v j=false/\(∀ b,(j,b)∉D)/\ ∀ x∈pr.getD j [],bv L x=true:=by
 obtain⟨h1,h2,h3⟩:=Ed hp h.hdc hj;have h4:bv L j=false:=by grind [Ev]
 have h5:=h4;rw [h.hb,or_eq_false_iff]at h5;refine⟨h1,h4,h5.1,fun b hb=>?_,fun x hx=>by rw [<-Ev];exact h3 x hx⟩;have:=Me.2 ⟨b,hb⟩;rw [h5.2]at this;cases this
theorem R.agA {st:St} (h:R F st a w G) {d:Nat} {u:Value} (hu:Aa w G (st.tm.getD d .undef) u):R F st (a.put (some d) u) w G:=by
 have:=h.put (d:=some d) hu;have e:st.put (some d) (st.tm.getD d .undef)=st:=by simp only [St.put];congr 1;apply List.ext_getElem?;grind
 grind
theorem Fy.up1 (IN:P4 ops pr=true) (hdn:Vj ops=true) (hlz:MB ops lz=true) (hw:Ay H st) {pd:List MD} (hpd: ∀ q∈pd,Sb P ops lz H st.nx q) (hck:RG ops pr lz v pd st=true) (h:Fy P ops pr F0 v st m L D F a w G) {a':Act} (hu:Up1 P ops pr lz L.toArray w a a'):Fy P ops pr F0 v st m L D F a' w G:=by
 obtain⟨p,o,d,u,h1,h2,h3,h4,h5,h6,rfl⟩:=hu;obtain⟨k1,k2⟩:=GB hlz h1 h2;have hcN:Lc ops p=1:=by grind [Lc]
 have nmk: ∀ q,(p,q)∉D:=fun q hq=>by obtain⟨_,_,o',_,_,_,_,r1,r2,_⟩:=h.hD _ hq;simp_all [Ln]
 have hvp:bv v p=true:=by rw [Ev,h.hb,or_eq_true]at h4;grind
 simp only [RG,all_eq_true,or_eq_true,not_eq_true']at hck;rcases hck p h1 with q | q | q
 ·grind
 ·exfalso;refine h5 ?_;simp only [se,any_eq_true,mem_range,and_eq_true,beq_eq,Dd]at q;obtain⟨k,_,k1,k2,k3⟩:=q;exact⟨k,by rw [Ev,h.hb,k1];rfl,k2,k3⟩
 ·simp only [any_eq_true,and_eq_true,beq_eq]at q;obtain⟨q0,hq0,e0,hok⟩:=q;subst e0;obtain⟨r1,x,_,r2,r3⟩:=SN hw (hpd q0 hq0) hok h2 h.hR;rw [h3]at r1;injection r1 with r1;subst r1;rw [r3 w (Ca.refl w)]at h6;have hxu:x=u:=by grind
  subst hxu;exact {h with
   hD:=fun p' hp'=>by obtain⟨s1,s2,s3⟩:=h.hD p' hp';have n_:p'.1 ≠ q0.i:=(by grind);refine⟨s1,s2,s3.move fun d' o' ho' Y_=>?_⟩;exact Cs (by grind)
   hR:=h.hR.agA r2}
theorem Fx.ups (IN:P4 ops pr=true) (hdn:Vj ops=true) (hlz:MB ops lz=true) (hw:Ay H st) {pd:List MD} (hpd: ∀ q∈pd,Sb P ops lz H st.nx q) (hck:RG ops pr lz v pd st=true) (h:Fx P ops pr lz F0 v st m L D F a w G) {a':Act} (hu:Ups P ops pr lz L.toArray w a a'):Fx P ops pr lz F0 v st m L D F a' w G:=by
 induction hu with
 | refl=>exact h
 | step _ h1 ih=>exact {toFy:=ih.toFy.up1 IN hdn hlz hw hpd hck h1,hS:=ih.hS.up1 IN hlz h1}
theorem Vm {il:Hl} {pd:List MD} {R':Type} {K:Ac T->Option R'} {r:R'}: ∀ {n:Nat},I8 Γ rec ops pr lz il n v pd st R' K=some r->RG ops pr lz v pd st=true
 | 0,h=>by grind [I8]
 | n+1,h=>by grind [I8]
theorem Bt (L:List Bool) (i:Nat):L.toArray.setIfInBounds i true=(L.set i true).toArray :=by simp
theorem Fx.make (IN:P4 ops pr=true) (hdn:Vj ops=true) (hlz:MB ops lz=true) {pd:List MD} (hpd: ∀ q∈pd,Sb P ops lz H st.nx q) (hck:RG ops pr lz v pd st=true) (hi0:rX F0) (hw:Ay H st) (hma:Vk P ops st=true) (hun:unM ops v st=true) (h:Fx P ops pr lz F0 v st (m+1) L D F a w G) {j:Nat} (hj:j∈Region.ready .any ops L.toArray) (hm:ju ops j=true) {Q:Exit->Act->World->Prop}
 (hK: ∀ L D F a w' G,Fx P ops pr lz F0 v st m L D F a w' G->(j,w.heap.size)∈D->C1 P ops Q pr lz m L.toArray a w'):
 wpOp P ops Q j (fun a' w'=> ∀ a'',Ups P ops pr lz (L.toArray.setIfInBounds j true) w' a' a''->WM P ops pr lz (L.toArray.setIfInBounds j true) a'' w'/\C1 P ops Q pr lz m (L.toArray.setIfInBounds j true) a'' w') a w:=by
 obtain⟨hns,hp,abO⟩:=E4 IN;obtain⟨hjl,hju,hjv,hjD,_⟩:=h.akJ hp hj;unfold ju at hm;have hoj:ops[j]? =some ops[j]:=(by grind);generalize ops[j]=o at hoj;rw [hoj]at hm;simp only at hm;obtain⟨hg,⟨d,hd⟩,hc⟩:=Ln hm;obtain⟨x,hx⟩: ∃ x,uS P st o=some x:=by simp only [Vk,all_eq_true,or_eq_true,not_eq_true']at hma;grind [Option.isSome_iff_exists]
 have hud:st.get d= .u /\d<st.m:=by simp only [unM,all_eq_true,mem_range,or_eq_true]at hun;have:=hun j hjl;rw [hjv,hoj]at this;simp only [hm,hd,Bool.not_true,Bool.false_or,and_eq_true,blt_eq]at this;grind [isU]
 obtain⟨arr,Tt,h_,hxo⟩:=wG hw hx h.hR;have Tr:a.tmps.size=st.m:=by rw [h.hR.size];exact A7 _ _
 refine i8 IN hlz hoj hc h.hdc hj h.hS (K:=fun a' w'=>Ca w w'/\ ∃ D' F' G',Fy P ops pr F0 v st m (L.set j true) D' F' a' w' G'/\(j,w.heap.size)∈D') ?_ ?_ ?_ ?_
 ·rw [C9 hg,if_pos rfl];refine Au h_ ?_;rw [hd];refine⟨EP _ _,?_⟩;have hsm:=EP w (.cells arr Tt);have t':=h.ht.take h.hR (Fu w (.cells arr Tt)) hsm j;obtain⟨G1,hR1⟩:=h.hR.taken (Fu w (.cells arr Tt)) hsm (b:=w.heap.size) rfl (by simp [EO]) (t'.ale hi0 fun x hx hx2=>(t'.kept x hx hx2).1) (d:=d) (v:=aE x w.heap.size) (by rw [st.aaa,hud.1];simp only [DV.toV]);refine⟨(j,w.heap.size)::D,_,G1,⟨h.hv,by simpa using h.hL,fun k=>?_,by rw [<-Bt];exact h.hdc.set hp hj,?_,?_,fun p hp'=>?_,t',?_,hR1⟩,List.mem_cons_self⟩
  ·rw [CA (by rw [h.hL];exact hjl),h.hb,List.any_cons];grind
  ·rw [map_cons];refine nodup_cons.2 ⟨fun q=>?_,h.n1⟩;grind
  ·rw [map_cons];refine nodup_cons.2 ⟨fun q=>?_,h.n2⟩;obtain⟨p,hp',e⟩:=mem_map.1 q;have e:p.2=w.heap.size:=e;have hav:F.av p.2:=(h.ht.av _).2 (.inr ⟨p.1,hp'⟩);have:=h.hR.Tu _ hav;have:=h.hR.hsize;omega
  ·rcases mem_cons.1 hp' with rfl | hp'
   ·refine⟨hjl,hjv,o,d,x,arr,Tt,hoj,hm,hd,hx,hxo,heap_alloc_new w _,fun⟨i,hi⟩=>?_,?_⟩
    ·have:=h.hR.lt i _ hi;omega
    simp_all [Act.put]
   ·obtain⟨q1,q2,o',d',x',Q_,Tt',r1,r2,r3,r4,r5,r6,r7,r8⟩:=h.hD p hp';have hav:F.av p.2:=(h.ht.av _).2 (.inr ⟨p.1,hp'⟩);refine⟨q1,q2,o',d',x',Q_,Tt',r1,r2,r3,r4,r5,?_,fun⟨i,hi⟩=>h.hR.unnamed hav i hi,?_⟩
    ·show (w.alloc (.cells arr Tt)).heap[p.2]? =_;have Tw:=h.hR.Tu _ hav;rw [hsm.block p.2 (lt_of_lt_of_le Tw h.hR.hsize),h.hR.ext p.2 Tw r7];exact r6
    ·have n_:p.1 ≠ j:=(by grind);rw [<-r8];exact Cs (x:=some d) (fun e he=>by injection he with he;subst he;exact E9 hdn hoj r1 (Ne.symm n_) hd r3)
  ·have:=h.hc;grind
 ·intro a' w' ⟨hsm,_⟩ p op hop hcp hpl hpf he1 he2 hW d hd;obtain⟨u,m1,m2⟩:=hW d hd;refine⟨u,by grind,fun w1 hw1=>?_⟩;have h1:=hw1.resolve_left (by rw [hcp];omega);rw [he1 w1 (hsm.trans h1)];exact m2 w1 (.inr (hsm.trans h1))
 ·intro a' w' a'' ⟨hsm,D',F',G',hf,hj'⟩ hu;rw [Bt]at hu;exact⟨hsm,D',F',G',hf.up1 IN hdn hlz hw hpd hck hu,hj'⟩
 ·intro a' w' ⟨hsm,D',F',G',hf,hj'⟩ _ hS';rw [Bt]at hS' ⊢;exact hK _ D' F' a' w' G' {toFy:=hf,hS:=hS'} hj'
theorem Fx.amx (hi0:rX F0) (hl0: ∀ x,F0.av x->x<F0.w0.heap.size) (hw:Ay H st) (h:Fx P ops pr lz F0 v st m L D F a w G) {i b d:Nat} {o:Oper} {x:DX T} {s:Ac T} (hi:(i,b)∈D) (ho:ops[i]? =some o) (hd:o.dst=some d) (hx:uS P st o=some x) (hs:st.new (d::st.pre) x=some s):
 ∃ G',Fx P ops pr lz F0 (v.set i true) (s.put (some d) (.c (.c (Vi x (d::st.pre))))) m L (D.filter fun p=>p.1 != i) (F.acF b) a w G':=by
 obtain⟨hil,hiv,o',d',x',arr,Tt,r1,r2,r3,r4,r5,r6,r7,r8⟩:=h.hD _ hi;simp only at hil hiv r1 r6 r7 r8;rw [ho]at r1;injection r1 with r1;subst r1;rw [hd]at r3;injection r3 with r3;subst r3;rw [hx]at r4;injection r4 with r4;subst r4;have t':=h.ht.acF hi h.n1 h.n2 hl0;have hav:F.av b:=(h.ht.av _).2 (.inr ⟨i,hi⟩);have hh:w.heap[b]? =some (.cells arr Tt (0,0)):=by rw [h.hR.ext b (h.hR.Tu b hav) r7];exact r6
 obtain⟨G',hR'⟩:=oU hw r5 h.hR hav (t'.ale hi0 fun x hx hx2=>(t'.kept x hx hx2).1) hh r8 hs;refine⟨G',⟨by simpa using h.hv,h.hL,fun k=>?_,h.hdc,List.Sublist.nodup (by grind [filter_sublist]) h.n1,List.Sublist.nodup (by grind [filter_sublist]) h.n2,fun p hp=>?_,t',?_,hR'⟩,h.hS⟩
 ·rw [h.hb,CA (by rw [h.hv];exact hil)];by_cases hk:k=i
  ·grind
  ·have e1:(k==i)=false:=by grind
   rw [e1,Bool.false_or];congr 1;rw [Bool.eq_iff_iff,Me,Me];grind
 ·obtain⟨hp1,hp2⟩:=mem_filter.1 hp;have n_:p.1 ≠ i:=by grind
  obtain⟨q1,q2,o',d',x',Q_,Tt',s1,s2,s3,s4,s5,s6,s7,s8⟩:=h.hD p hp1;refine⟨q1,by rw [CA (by rw [h.hv];exact hil),q2];grind,o',d',x',Q_,Tt',s1,s2,s3,by grind [Qp],s5,s6,fun q=>?_,s8⟩;rcases q with q | q
  ·exact s7 q
  ·have:p=(i,b):=aF h.n2 hp1 hi q;grind
 ·have h1:=SO h.hv hil hiv;have h2:=h.hc;have h3:(D.filter fun p=>p.1 != i).length +1=D.length:=by
   have key: ∀ l:List (Nat×Nat),(l.map (·.1)).Nodup ->(i,b)∈l->(l.filter fun p=>p.1 != i).length +1=l.length:=by
    intro l;induction l with
    | nil=>grind
    | cons p l ih=>
      intro hn hm;rw [map_cons]at hn;obtain⟨n1,n2⟩:=nodup_cons.1 hn;rcases mem_cons.1 hm with e | hm
      ·grind [List.filter_eq_self]
      grind
   exact key D h.n1 hi
  omega
theorem jv {v:List Bool} {i:Nat} (h:sd ops v=some i):i<ops.size/\Oy ops v i=true:=by
 unfold sd at h;split at h
 ·rename_i j hj;injection h with h;subst h;have:j∈(List.range ops.size).filter fun i=>Oy ops v i&& !ju ops i:=by grind
  grind
 all_goals grind
theorem jw {v:List Bool} {i:Nat} (h:yF ops v=some i):i<ops.size/\Oy ops v i=true/\Lc ops i ≠ 0:=by obtain⟨h1,h2⟩:=sj h;simp only [and_eq_true,not_eq_true']at h2;exact⟨by grind,h2.1,fun e=>by simp_all⟩
theorem mw {v:List Bool} {i:Nat} (h:Oy ops v i=true):bv v i=false:=by simp_all [Oy]
theorem my {i:Nat} (h:ju ops i=true):Lc ops i=0:=by
 unfold ju at h;split at h
 all_goals simp_all [Lc,Ln]
theorem FJ {P:Program} {st an:Ac T} (h:Vk P ops st=true):Vk P ops an=true:=by
 simp only [Vk,all_eq_true,or_eq_true,not_eq_true']at h ⊢;intro o ho;rcases h o ho with q | q
 ·exact .inl q
 ·cases hm:sa o with
  | false=>grind
  | true=>grind [Qp]
theorem Fx.other (hp:ZR ops pr=true) (h:Fx P ops pr lz F0 v st m L D F a w G) {i:Nat} (hok:Aal ops pr v i=true) (hiD: ∀ b,(i,b)∉D) {j:Nat} (hj:j∈Region.ready .any ops L.toArray) (n_:j ≠ i):ju ops j=true:=by
 obtain⟨h1,h2,h3,h4,h5⟩:=h.akJ hp hj;simp only [Aal,all_eq_true,mem_range,or_eq_true,beq_eq,any_eq_true,and_eq_true,not_eq_true']at hok;rcases hok j h1 with q | q | q | ⟨x,hx,q1,q2⟩
 ·grind
 ·grind
 ·exact q
 ·exfalso;have:=h5 x hx;rw [h.hb,q1,Bool.false_or]at this;obtain⟨b,hb⟩:=Me.1 this;rcases q2 with q2 | q2
  ·obtain⟨_,_,o,d,y,arr,Tt,r1,r2,_⟩:=h.hD _ hb;grind [ju]
  grind
theorem Oz (IN:P4 ops pr=true) (hdn:Vj ops=true) (hlz:MB ops lz=true) (o_:eN P I rec) (il:Hl) (hI0:F0.I=I) (hi0:rX F0) (hd0: ∀ x,F0.Tc x-> ¬F0.av x) (hl0: ∀ x,F0.av x->x<F0.w0.heap.size) {R':Type} {K:Ac T->Option R'} {r:R'} {PK:St->Prop}:
 ∀ (n:Nat) (v:List Bool) (pd:List MD) (st:Ac T) (H:Aq T),Ay H st->(∀ q∈pd,Sb P ops lz H st.nx q)->Vk P ops st=true->I8 Γ rec ops pr lz il n v pd st R' K=some r->(∀ H' an,Nx H st H' an->K an=some r->PK an.toSt)->
 ∀ (m:Nat) (L:List Bool) (D:List (Nat×Nat)) (F:Fr) (a:Act) (w:World) (G:Ax),Fx P ops pr lz F0 v st m L D F a w G->C1 P ops (fun e a' w'=>e= .normal /\ ∃ s G',PK s/\R F0 s a' w' G') pr lz m L.toArray a w
 | 0,v,pd,st,H,hw,hpd,hma,hr,hK,m,L,D,F,a,w,G,h=>by
   simp only [I8]at hr;split at hr
   ·cases hr
   split at hr
   ·rename_i abg;simp only [all_eq_true,mem_range]at abg;have hD:D=[]:=by
     cases D with
     | nil=>rfl
     | cons p D=>
       obtain⟨q1,q2,_⟩:=h.hD p (by simp);grind
    subst hD;obtain⟨s,⟨⟨H1,n1⟩,_,w1⟩,hr⟩:=Eu ops.size il hw R' _ r hr;obtain⟨G',hR'⟩:=w1 F a w G h.hR;have hQ:(fun(e:Exit) (a':Act) (w':World)=>e= .normal /\ ∃ s G',PK s/\R F0 s a' w' G') .normal a w:=⟨rfl,s.toSt,G',hK H1 s n1 hr,h.ht.back hi0 hd0 hl0 hR'⟩;have hrd:Region.ready .any ops L.toArray=[]:=by
     rw [eQ h.hL,List.filter_eq_nil_iff];intro i hi;have:bv L i=true:=by rw [h.hb,abg i (by simpa using hi)];rfl
     simp [Oy,this]
    cases m with
    | zero=>exact⟨hrd,hQ⟩
    | succ m=>exact⟨fun _=>hQ,fun i hi=>by rw [hrd]at hi;cases hi⟩
   ·cases hr
 | n+1,v,pd,st,H,hw,hpd,hma,hr,hK,m,L,D,F,a,w,G,h=>by
   obtain⟨hns,hp,abO⟩:=E4 IN;have hQ: ∀ c a w, ¬(fun(e:Exit) (a':Act) (w':World)=>e= .normal /\ ∃ s G',PK s/\R F0 s a' w' G') (.panic c) a w:=(by grind);have hI:F.I=I:=h.ht.agc.trans hI0;have hm:a.tmps.size=st.m:=by rw [h.hR.size];exact A7 _ _
   have hck:=Vm hr;simp only [I8]at hr;split at hr
   ·cases hr
   split at hr
   ·rename_i i agU;obtain⟨hil,afs,hcN⟩:=jw agU;have hiu:=mw afs;have hiD: ∀ b,(i,b)∉D:=fun b hb=>by obtain⟨_,_,o,d,x,arr,Tt,r1,r2,_⟩:=h.hD _ hb;grind [my,ju]
    have afr:=h.rdy hil afs hiD;have aeT:=h.hdc.set hp afr;rw [Bt]at aeT;obtain⟨m',rfl⟩: ∃ m',m=m'+1:=⟨m - 1,by have:=h.pos hil hiu hiD;omega⟩;split at hr
    ·rename_i o hi;have hc:CO o ≠ 0:=by grind [Lc]
     obtain⟨hgd,d,hd⟩:=IY hc;have hdl:d∉o.looksAt ops:=(by grind);have alO:=fun cs b=>Region.noSelect_spec hns i o cs b hi;have go: ∀ (an:Ac T) (H':Aq T) (pd':List MD),si o st=true->Nx H st H' an->(∀ q∈pd',Sb P ops lz H' an.nx q)->(∃ u G',(∀ w',(CO o=2\/Ca w w')->(execOp a.eval o).run P w'= .ok (.value u) w')/\R F an.toSt (a.put o.dst u) w G')->
      I8 Γ rec ops pr lz il n (v.set i true) pd' an R' K=some r->C1 P ops (fun e a' w'=>e= .normal /\ ∃ s G',PK s/\R F0 s a' w' G') pr lz (m'+1) L.toArray a w:=by
      intro an H' pd' Tw hn alJ ⟨u,G',h_,hR'⟩ hq;have hW:om P (i∈lz) o (a.put o.dst u) w:=by intro d' Y_;refine⟨_, .inr rfl,fun w' hw'=>?_⟩;rw [hd]at Y_;injection Y_ with Y_;subst Y_;rw [execOp_put o alO a o.dst u (fun e he=>by rw [hd]at he;injection he with he;exact he▸hdl),h_ w' hw',hd];simp_all [si,Act.put]
      have hS':=WM.take IN hi hc h.hdc afr h.hS hW;refine zD (v:=u) IN hlz hi hc hQ m' L.toArray a w h.hdc afr ?_;rw [Bt]at hS' ⊢;have hfx:Fx P ops pr lz F0 (v.set i true) an m' (L.set i true) D F (a.put o.dst u) w G':=?_
      ·intro a'' hu;have hf2:=hfx.ups IN hdn hlz hn.ok alJ (Vm hq) hu;exact⟨hf2.hS,Oz IN hdn hlz o_ il hI0 hi0 hd0 hl0 n (v.set i true) pd' an H' hn.ok alJ (FJ hma) hq (fun H'' s n' q=>hK H'' s (hn.trans n') q) m' _ D F _ w G' hf2⟩
      refine⟨⟨by simpa using h.hv,by simpa using h.hL,fun k=>?_,aeT,h.n1,h.n2,fun p hp'=>?_,h.ht,?_,hR'⟩,hS'⟩
      ·rw [CA (by rw [h.hL];exact hil),CA (by rw [h.hv];exact hil),h.hb,Bool.or_assoc]
      ·obtain⟨q1,q2,q3⟩:=h.hD p hp';have n_:p.1 ≠ i:=(by grind);refine⟨q1,by rw [CA (by rw [h.hv];exact hil),q2];grind,q3.move fun d' o' ho' Y_=>?_⟩;exact Cs (fun e he=>E9 hdn hi ho' (Ne.symm n_) he Y_)
      ·have h1:=SO h.hv hil hiu;have h2:=h.hc;omega
     have pdx: ∀ {an:Ac T} {H':Aq T},Nx H st H' an-> ∀ q∈pd,Sb P ops lz H' an.nx q:=fun hn q hq=>(hpd q hq).nx hn;have akS: ∀ {B:St},zL P I o st.toSt B->CO o ≠ 2-> ∃ u G',(∀ w',(CO o=2\/Ca w w')->(execOp a.eval o).run P w'= .ok (.value u) w')/\R F B (a.put o.dst u) w G':=fun hy h2=>by obtain⟨u,G',q1,q2⟩:=hy F a w G hI h.hR;grind
     split at hr
     ·rename_i h2 Tw;have h2:CO o=2:=(by simp_all);have hsl:Lb o.op=true:=by grind [CO]
      obtain⟨u,hu,hr⟩:=IX hw (I3 _ _) o.op R' _ r hr;obtain⟨q1,q2,q3⟩:=hu rfl;obtain⟨H',hn⟩:=Ac.O_ hw o.dst q1;refine go _ H' pd Tw hn (pdx hn) ?_ hr;obtain⟨x,k1,k2⟩:=i7 h.hR rfl hsl q2;change Aa w G (CT P st.toSt true o.op).2 x at k1;rw [show (CT P st.toSt true o.op).2=u.toV from q3]at k1;exact⟨x,G,fun w' _=>k2 w',by rw [Ac.d_];exact h.hR.put k1⟩
     ·rename_i h2 Tw;have h2:CO o ≠ 2:=fun e=>by simp_all
      split at hr
      ·obtain⟨an,⟨⟨H',hn⟩,_,hy⟩,hr⟩:=mh (I:=I) hw R' _ r hr;grind
      ·obtain⟨an,⟨⟨H',hn⟩,_,hy⟩,hr⟩:=rG (I:=I) hw R' _ r hr;grind
      ·cases hr
      ·rename_i hld;have an9:BC o.op= .rd :=by
        unfold AcH at hld;split at hld
        ·rename_i q;rw [q];rfl
        ·cases hld
       split at hr
       ·rename_i an q hq;obtain⟨H',hn,_,hy,hpq,_⟩:=wF (I:=I) hw (lz:=lz) (fun q=>Dd.1 q) hi hq;grind
       ·obtain⟨u,hu,hr⟩:=IX hw (I3 _ _) o.op R' _ r hr;obtain⟨H',hn⟩:=Ac.O_ hw o.dst (hu rfl).1;exact go _ H' pd Tw hn (pdx hn) (akS (rV hw an9 hu) h2) hr
     ·cases hr
    ·cases hr
   ·split at hr
    ·rename_i i agU;obtain⟨hil,afs⟩:=jv agU;have hiu:=mw afs;split at hr
     ·rename_i o hi hok;simp only [and_eq_true]at hok;obtain⟨hok,hun⟩:=hok;split at hr
      ·
       rename_i hc hmk;split at hr
       ·rename_i d x hd hx;split at hr
        ·rename_i s hs;have hxr: ∀ {m:Nat} {L:List Bool} {D:List (Nat×Nat)} {F:Fr} {a:Act} {w:World} {G:Ax} {b:Nat},Fx P ops pr lz F0 v st m L D F a w G->(i,b)∈D->C1 P ops (fun e a' w'=>e= .normal /\ ∃ s G',PK s/\R F0 s a' w' G') pr lz m L.toArray a w:=by intro m L D F a w G b h hib;obtain⟨G',hfx⟩:=h.amx hi0 hl0 hw hib hi hd hx hs;obtain⟨_,_,_,_,_,_,_,r1,_,_,r4,r5,_⟩:=h.hD _ hib;simp only at r1;rw [hi]at r1;injection r1 with r1;subst r1;rw [hx]at r4;injection r4 with r4;subst r4;obtain⟨⟨H1,n1⟩,_,_⟩:=Ac.aaK hw r5.ok hs;obtain⟨H2,n2⟩:=Ac.r_ n1 (some d) (v:= .c (.c (Vi x (d::st.pre)))) (by simp only [DV.ok,DC.ok]);exact Oz IN hdn hlz o_ il hI0 hi0 hd0 hl0 n (v.set i true) pd _ H2 n2.ok (fun q hq=>(hpd q hq).nx n2) (FJ hma) hr (fun H'' s n' q=>hK H'' s (n2.trans n') q) m _ _ _ a w G' hfx
         have main: ∀ (m:Nat) (L:List Bool) (D:List (Nat×Nat)) (F:Fr) (a:Act) (w:World) (G:Ax),Fx P ops pr lz F0 v st m L D F a w G->C1 P ops (fun e a' w'=>e= .normal /\ ∃ s G',PK s/\R F0 s a' w' G') pr lz m L.toArray a w:=by
          intro m;induction m with
          | zero=>
            intro L D F a w G h;by_cases hiD: ∃ b,(i,b)∈D
            ·grind
            ·have:=h.pos hil hiu (by grind);omega
          | succ m ih=>
            intro L D F a w G h;by_cases hiD: ∃ b,(i,b)∈D
            ·grind
            ·have hiD: ∀ b,(i,b)∉D:=(by grind);refine⟨fun q=>(by have:=h.rdy hil afs hiD;grind),fun j hj=>?_⟩;have hmj:ju ops j=true:=by
              by_cases hji:j=i
              ·grind [ju]
              ·exact h.other hp hok hiD hj hji
             exact h.make IN hdn hlz hpd hck hi0 hw hma hun hj hmj (by grind)
         grind
        ·cases hr
       ·cases hr
      ·rename_i hc hmk;have hiD: ∀ {m:Nat} {L:List Bool} {D:List (Nat×Nat)} {F:Fr} {a:Act} {w:World} {G:Ax},Fx P ops pr lz F0 v st m L D F a w G-> ∀ b,(i,b)∉D:=by intro m L D F a w G h b hb;obtain⟨_,_,o',_,_,_,_,r1,r2,_⟩:=h.hD _ hb;grind
       split at hr
       ·rename_i aur;have hbs:sf o=true:=by grind
        have hg:o.guard=none:=by grind [sf]
        have main: ∀ (m:Nat) (L:List Bool) (D:List (Nat×Nat)) (F:Fr) (a:Act) (w:World) (G:Ax),Fx P ops pr lz F0 v st m L D F a w G->C1 P ops (fun e a' w'=>e= .normal /\ ∃ s G',PK s/\R F0 s a' w' G') pr lz m L.toArray a w:=by
         intro m;induction m with
         | zero=>
           intro L D F a w G h;have:=h.pos hil hiu (hiD h);omega
         | succ m ih=>
           intro L D F a w G h;have afr:=h.rdy hil afs (hiD h);refine⟨(by grind),fun j hj=>?_⟩;by_cases hji:j=i
           ·subst hji;have hI:F.I=I:=h.ht.agc.trans hI0;have aeT:=h.hdc.set hp afr;rw [Bt]at aeT;obtain⟨an,⟨⟨H',hn⟩,e1,e2,_⟩,hq⟩:=SG hw o R' _ r hr;have al7:=Vm hq;refine i8 IN hlz hi hc h.hdc hj h.hS (K:=fun a' w'=>Ca w w'/\ ∃ G',R F an.toSt a' w' G') ?_ ?_ ?_ ?_
            ·rw [C9 hg,if_pos rfl];exact AcL hbs e1 e2 h.hR
            ·intro a' w' ⟨hsm,_⟩ p op hop hcp hpl hpf he1 he2 hW d hd;obtain⟨u,m1,m2⟩:=hW d hd;refine⟨u,by grind,fun w1 hw1=>?_⟩;have h1:=hw1.resolve_left (by rw [hcp];omega);rw [he1 w1 (hsm.trans h1)];exact m2 w1 (.inr (hsm.trans h1))
            ·intro a' w' a'' ⟨hsm,G',hR'⟩ ⟨p,op,d,u,u1,hop,u3,hpl,hpf,u6,ea⟩;subst ea;refine⟨hsm,G',?_⟩;have hcp:=(GB hlz u1 hop).1;have atS:p ≠ j:=(by grind);have hvp:bv (v.set j true) p=true:=by
              rw [CA (by rw [h.hv];exact hil)];rcases Cr hpl with e | q
              ·grind
              ·rw [Ev,h.hb,or_eq_true]at q;rw [or_eq_true];rcases q with q | q
               ·exact .inr q
               ·exfalso;obtain⟨b,hb⟩:=Me.1 q;obtain⟨_,_,o',_,_,_,_,r1,r2,_⟩:=h.hD _ hb;simp_all [Ln]
             simp only [RG,all_eq_true,or_eq_true,not_eq_true']at al7;rcases al7 p u1 with q | q | q
             ·grind
             ·exfalso;refine hpf ?_;simp only [se,any_eq_true,mem_range,and_eq_true,beq_eq,Dd]at q;obtain⟨k,_,k1,k2,k3⟩:=q;refine⟨k,?_,k2,k3⟩;rw [Bt,Ev,CA (by rw [h.hL];exact hil),h.hb];rw [CA (by rw [h.hv];exact hil)]at k1;grind
             ·simp only [any_eq_true,and_eq_true,beq_eq]at q;obtain⟨q0,hq0,e0,agW⟩:=q;subst e0;obtain⟨r1,x,_,r2,r3⟩:=SN hn.ok ((hpd q0 hq0).nx hn) agW hop hR';rw [u3]at r1;injection r1 with r1;subst r1;rw [r3 w' (Ca.refl w')]at u6;have hxu:x=u:=by grind
              subst hxu;exact hR'.agA r2
            ·intro a' w' ⟨_,G',hR'⟩ ha' hS';rw [Bt]at hS' ⊢;refine Oz IN hdn hlz o_ il hI0 hi0 hd0 hl0 n (v.set j true) pd an H' hn.ok (fun q hq=>(hpd q hq).nx hn) (FJ hma) hq (fun H'' s n' q=>hK H'' s (hn.trans n') q) m _ D F a' w' G' ⟨⟨by simpa using h.hv,by simpa using h.hL,fun k=>?_,aeT,h.n1,h.n2,fun p hp'=>?_,h.ht,?_,hR'⟩,hS'⟩
             ·rw [CA (by rw [h.hL];exact hil),CA (by rw [h.hv];exact hil),h.hb,Bool.or_assoc]
             ·obtain⟨q1,q2,q3⟩:=h.hD p hp';have n_:p.1 ≠ j:=(by grind);refine⟨q1,by rw [CA (by rw [h.hv];exact hil),q2];grind,q3.move fun d' o' ho' Y_=>?_⟩;exact ha' d' (fun he=>E9 hdn hi ho' (Ne.symm n_) he Y_ rfl) fun p2 op2 hp2 hc2 hd2=>by have hpp:p2 ≠ p.1:=(by grind [AcK]);exact E9 hdn hp2 ho' hpp hd2 Y_ rfl
             ·have h1:=SO h.hv hil hiu;have h2:=h.hc;omega
           ·exact h.make IN hdn hlz hpd hck hi0 hw hma hun hj (h.other hp hok (hiD h) hj hji) (by grind)
        grind
       ·skip;have main: ∀ (m:Nat) (L:List Bool) (D:List (Nat×Nat)) (F:Fr) (a:Act) (w:World) (G:Ax),Fx P ops pr lz F0 v st m L D F a w G->C1 P ops (fun e a' w'=>e= .normal /\ ∃ s G',PK s/\R F0 s a' w' G') pr lz m L.toArray a w:=by
         intro m;induction m with
         | zero=>
           intro L D F a w G h;have:=h.pos hil hiu (hiD h);omega
         | succ m ih=>
           intro L D F a w G h;have afr:=h.rdy hil afs (hiD h);refine⟨(by grind),fun j hj=>?_⟩;by_cases hji:j=i
           ·subst hji;have hI:F.I=I:=h.ht.agc.trans hI0;have aeT:=h.hdc.set hp afr;rw [Bt]at aeT;have hwp:=Aan o_ hw (PK:=fun s=> ∃ H' an,Nx H st H' an/\Vl ops pr (v.set j true) pd an=true/\I8 Γ rec ops pr lz il n (v.set j true) pd an R' K=some r/\s=an.toSt) hr (by grind);have fresh: ∀ {an:Ac T} {p:Nat} {op:Oper},Vl ops pr (v.set j true) pd an=true->ops[p]? =some op->CO op=1->L.toArray.getD p false=true-> ¬Frc ops pr p (L.toArray.setIfInBounds j true)-> ∃ q∈pd,q.i=p/\oT an q=true:=by
             intro an p op hck hop hcp hpl hpf;simp only [Vl,all_eq_true,mem_range,or_eq_true,not_eq_true']at hck;have aof:p<ops.size:=(by grind);have hLp:(L.set j true).toArray.getD p false=true:=by grind [getD_set_true]
             have aup:Lc ops p=1:=by grind [Lc]
             have hvp:bv (v.set j true) p=true:=by
              rw [Ev,CA (by rw [h.hL];exact hil),h.hb]at hLp;rw [CA (by rw [h.hv];exact hil)];simp only [or_eq_true]at hLp ⊢;rcases hLp with q | q | q
              ·exact .inl q
              ·exact .inr q
              ·exfalso;obtain⟨b,hb⟩:=Me.1 q;obtain⟨_,_,o',_,_,_,_,r1,r2,_⟩:=h.hD _ hb;grind [my,ju]
             rcases hck p aof with q | q | q | q
             ·grind
             ·simp_all
             ·exfalso;refine hpf ?_;simp only [se,any_eq_true,mem_range,and_eq_true,beq_eq,Dd]at q;obtain⟨k,_,k1,k2,k3⟩:=q;refine⟨k,?_,k2,k3⟩;rw [Bt,Ev,CA (by rw [h.hL];exact hil),h.hb];rw [CA (by rw [h.hv];exact hil)]at k1;grind
             simp_all
            refine i8 IN hlz hi hc h.hdc hj h.hS (K:=fun a' w'=> ∃ H' an G',Nx H st H' an/\Vl ops pr (v.set j true) pd an=true/\I8 Γ rec ops pr lz il n (v.set j true) pd an R' K=some r/\R F an.toSt a' w' G') ?_ ?_ ?_ ?_
            ·have:=XU (Q:=fun e a' w'=>e= .normal /\ ∃ s G',PK s/\R F0 s a' w' G') h.hR (by rw [hI];exact hwp);have cv: ∀ a' w',hH F (fun s=> ∃ s',Wk s s'/\ ∃ H' an,Nx H st H' an/\Vl ops pr (v.set j true) pd an=true/\I8 Γ rec ops pr lz il n (v.set j true) pd an R' K=some r/\s'=an.toSt) a' w'-> ∃ H' an G',Nx H st H' an/\Vl ops pr (v.set j true) pd an=true/\I8 Γ rec ops pr lz il n (v.set j true) pd an R' K=some r/\R F an.toSt a' w' G':=by rintro a' w' ⟨s,G1,⟨s',hwk,H',an,k1,k2,k3,rfl⟩,hR1⟩;obtain⟨G2,hR2⟩:=hwk _ _ _ _ hR1;grind
             split at this
             ·rename_i hwt;rw [if_pos hwt];exact Oper.wp_mono cv this
             ·rename_i hwt;rw [if_neg hwt];exact cv _ _ this
            ·intro a' w' ⟨H',an,G',hn,hck,_,hR'⟩ p op hop hcp hpl hpf _ _ _;obtain⟨q0,hq0,e0,agW⟩:=fresh hck hop hcp hpl hpf;subst e0;exact rU hn.ok ((hpd q0 hq0).nx hn) agW hop hcp hR'
            ·intro a' w' a'' ⟨H',an,G',hn,hck,hq,hR'⟩ ⟨p,op,d,u,u1,hop,u3,hpl,hpf,u6,ea⟩;subst ea;have hcp:=(GB hlz u1 hop).1;refine⟨H',an,G',hn,hck,hq,?_⟩;have ah1:L.toArray.getD p false=true:=by grind [Cr]
             obtain⟨q0,hq0,e0,agW⟩:=fresh hck hop hcp ah1 hpf;subst e0;obtain⟨r1,x,_,r2,r3⟩:=SN hn.ok ((hpd q0 hq0).nx hn) agW hop hR';rw [u3]at r1;injection r1 with r1;subst r1;rw [r3 w' (Ca.refl w')]at u6;have hxu:x=u:=by grind
             subst hxu;exact hR'.agA r2
            ·intro a' w' ⟨H',an,G',hn,_,hq,hR'⟩ ha' hS';rw [Bt]at hS' ⊢;refine Oz IN hdn hlz o_ il hI0 hi0 hd0 hl0 n (v.set j true) pd an H' hn.ok (fun q hq=>(hpd q hq).nx hn) (FJ hma) hq (fun H'' s n' q=>hK H'' s (hn.trans n') q) m _ D F a' w' G' ⟨⟨by simpa using h.hv,by simpa using h.hL,fun k=>?_,aeT,h.n1,h.n2,fun p hp'=>?_,h.ht,?_,hR'⟩,hS'⟩
             ·rw [CA (by rw [h.hL];exact hil),CA (by rw [h.hv];exact hil),h.hb,Bool.or_assoc]
             ·obtain⟨q1,q2,q3⟩:=h.hD p hp';have n_:p.1 ≠ j:=(by grind);refine⟨q1,by rw [CA (by rw [h.hv];exact hil),q2];grind,q3.move fun d' o' ho' Y_=>?_⟩;exact ha' d' (fun he=>E9 hdn hi ho' (Ne.symm n_) he Y_ rfl) fun p2 op2 hp2 hc2 hd2=>by have hpp:p2 ≠ p.1:=(by grind [AcK]);exact E9 hdn hp2 ho' hpp hd2 Y_ rfl
             ·have h1:=SO h.hv hil hiu;have h2:=h.hc;omega
           ·exact h.make IN hdn hlz hpd hck hi0 hw hma hun hj (h.other hp hok (hiD h) hj hji) (by grind)
        grind
      ·cases hr
     ·cases hr
    ·cases hr
def AeW:HA->Bool
 | .q .lz =>true
 | _=>false
def AeX (ops:Array Oper) (i:Nat):Bool:=match ops[i]? with
 | some o=>match o.op with
   | .load _ (.tmp d)=>ops.toList.any fun q=>match q.op,q.dst with
     | .indexAddr ..,some e=>Nat.beq d e
     | _,_=>false
   | _=>false
 | none=>false
def sr (ops:Array Oper) (il:Hl):List Nat:=match (List.range ops.size).any fun i=>match I7 il i with
    | .c _=>true
    | .j .. =>true
    | _=>false with
 | true=>(List.range ops.size).filter fun i=>MB ops [i]&& !AeX ops i
 | false=>(List.range ops.size).filter fun i=>AeW (I7 il i)&&MB ops [i]
theorem su {ops:Array Oper} {il:Hl}:MB ops (sr ops il)=true:=by
 unfold sr;split
 ·grind [MB]
 ·unfold MB;grind
def Aao {P:Program} {I:World->Prop} (Γ:List (CE T P I)) (rec:oQ T) (ops:Array Oper) (il:Hl) (pr:List (List Nat)) (st:Ac T) (R:Type) (K:Ac T->Option R):Option R:=match P4 ops pr&&(Vj ops&&Vk P ops st)with
 | true=>I8 Γ rec ops pr (sr ops il) il ops.size (List.replicate ops.size false) [] (oV ops.toList st) R K
 | false=>none
theorem aG: ∀ (l:List Oper) {H:Aq T} {st:Ac T},Ay H st->(∃ H',Nx H st H' (oV l st))/\Wk st.toSt (oV l st).toSt
 | [],H,st,hw=>⟨⟨H,Nx.refl hw⟩,Wk.less (B0.refl _)⟩
 | o::r,H,st,hw=>by
   unfold oV;split
   ·obtain⟨H1,n1⟩:=Ac.O_ hw o.dst (v:= .u) (by simp only [DV.ok]);obtain⟨⟨H2,n2⟩,w2⟩:=aG r n1.ok;refine⟨⟨H2,n1.trans n2⟩,Wk.trans ?_ w2⟩;intro F a w G hR;refine⟨G,?_⟩;rw [Ac.d_];cases hd:o.dst with
    | none=>exact hR
    | some d=>exact hR.aci (by simp only [DV.toV,Aa])
   ·exact aG r hw
theorem wI (S_:P.follows .mixedOrders =true) (o_:eN P I rec) {il:Hl} {id:Nat} (hw:Ay H st) {R':Type} {K:Ac T->Option R'} {r:R'} (hr:Aao Γ rec ops il pr st R' K=some r) {F:Fr} (hI:F.I=I) {PK:St->Prop} {Q:Exit->St->Prop} (hPK: ∀ s,PK s->Q .normal s)
 (hK: ∀ H' an,Nx H st H' an->K an=some r->PK an.toSt):Ak P F (.region id ops true) st.toSt Q:=by
 unfold Aao at hr;split at hr
 ·rename_i IN;simp only [and_eq_true]at IN;obtain⟨IN,hdn,hma⟩:=IN;obtain⟨⟨H1,n1⟩,w1⟩:=aG ops.toList hw;refine Ak.wk w1 ?_;intro a w G hR;have hR':=hR.same (w':={w with drawn:=w.drawn+1}) ⟨rfl,rfl,rfl⟩ ⟨le_refl _,fun _ _=>rfl⟩;have hz: ∀ k,bv (List.replicate ops.size false) k=false:=(by grind [bv]);have hz2: ∀ k,(List.replicate ops.size false).toArray.getD k false=false:=fun k=>by rw [Ev,hz]
  have hu:(wH ops.size (List.replicate ops.size false)).length <=ops.size:=by grind [wH]
  have key:=Oz (pr:=pr) IN hdn su o_ il hI hR.inv hR.Kq hR.Tu ops.size _ [] _ H1 n1.ok (by grind) (FJ hma) hr (fun H' s n q=>hK H' s (n1.trans n) q) ops.size (List.replicate ops.size false) [] F a {w with drawn:=w.drawn+1} G
   (.mk ⟨(by simp),(by simp),(by grind),(fun k hk=>by rw [hz2]at hk;cases hk),List.nodup_nil,List.nodup_nil,(by grind),H6.start F,(by grind),hR'⟩ (fun i o _ _ hl=>by rw [hz2]at hl;cases hl))
  have:=UG _ _ _ _ key;have h2:=wp_region_any (id:=id) S_ (by simpa using this);grind [Code.wp_mono]
 ·cases hr
end
end Go.PL
namespace Go.PL
open Go Go.RowKit
variable {T:AX}
def ET (T:AX):List (Nat×FG)->Type
 | []=>Empty
 | [x]=>RT T x.2.ts
 | x::y::r=>RT T x.2.ts⊕ET T (y::r)
def sv {α β:Type} (f:α->β):Option α->Option β
 | some x=>some (f x)
 | none=>none
def oW (Tz an:Ac T) (k:Nat):(xs:List (Nat×FG))->Option (ET T xs)
 | []=>none
 | [x]=>match Nat.beq x.1 k with
   | true=>x.2.gen Tz an
   | false=>none
 | x::y::r=>match Nat.beq x.1 k with
   | true=>sv Sum.inl (x.2.gen Tz an)
   | false=>sv Sum.inr (oW Tz an k (y::r))
def YB {R:Type} (Tz:Ac T) (K:Nat->Ac T->Option R):(xs:List (Nat×FG))->ET T xs->Option R
 | []=>fun o=>nomatch o
 | [x]=>fun v=>match x.2.inst Tz (BQ x.2.ts v)with
   | some s=>K x.1 s
   | none=>none
 | x::y::r=>Sum.elim (fun v=>match x.2.inst Tz (BQ x.2.ts v)with
   | some s=>K x.1 s
   | none=>none) (YB Tz K (y::r))
def jx:Nat->Exit
 | 0=> .ret
 | n+1=> .exit n
def Mf:Exit->Option Nat
 | .ret =>some 0
 | .exit n=>some (n+1)
 | _=>none
theorem jy {e:Exit} {k:Nat} (h:Mf e=some k):jx k=e:=by
 cases e<;>simp only [Mf,injEq]at h<;>first
  | (subst h;rfl)
  | grind
theorem Qq {α β:Type} {f:α->β} {o:Option α} {y:β} (h:sv f o=some y): ∃ x,o=some x/\f x=y:=by
 cases o with
 | none=>cases h
 | some x=>injection h with h;grind
theorem mz {H H':Aq T} {R:Type} {Tz an:Ac T} {k:Nat} {K:Nat->Ac T->Option R} {r:R} (h0:Ay H Tz) (hN:Nx H Tz H' an): ∀ {xs:List (Nat×FG)} {o:ET T xs},oW Tz an k xs=some o->YB Tz K xs o=some r->
 ∃ s H2,Wk an.toSt s.toSt/\Nx H Tz H2 s/\K k s=some r
 | [],o,h,_=>by cases h
 | [x],o,h,he=>by
   simp only [oW]at h;split at h
   ·rename_i hb;have hb:=eq_of_beq_eq_true hb;subst hb;simp only [YB]at he;split at he
    ·rename_i s hi;obtain⟨H2,n2⟩:=FG.ab6 h0 (Dm _ _) hi;exact⟨s,H2,FG.abU h0 hN h hi,n2,he⟩
    ·cases he
   ·cases h
 | x::y::r',o,h,he=>by
   simp only [oW]at h;split at h
   ·rename_i hb;have hb:=eq_of_beq_eq_true hb;subst hb;obtain⟨v,h1,rfl⟩:=Qq h;simp only [YB,Sum.elim_inl]at he;split at he
    ·rename_i s hi;obtain⟨H2,n2⟩:=FG.ab6 h0 (Dm _ _) hi;grind [FG.abU]
    ·cases he
   ·obtain⟨v,h1,rfl⟩:=Qq h;simp only [YB,Sum.elim_inr]at he;exact mz h0 hN h1 he
theorem oX {σ ρ:Type} {B:σ->Option (σ⊕ρ)} {n:Nat} {s:σ} {o:ρ} (h:PL.iter B n s=some o): ∃ z,B s=some z:=by
 cases n with
 | zero=>cases h
 | succ n=>
   simp only [PL.iter]at h;grind
section
variable {P:Program} {I:World->Prop}
def Aap (Γ:List (CE T P I)) (rec:oQ T) (ops:Array Oper) (dr:Bool) (fz:List Ad) (ow:List (Ad×Nat×Ad×Nat)) (il:Hl) (st:Ac T) (R:Type) (K:Ac T->Option R):Option R:=
 match dr with
 | false=>Vh Γ rec ops il ops.toList 0 (D3 fz st) R fun s=>match aA ow s with
   | some s'=>K s'
   | none=>none
 | true=>match AeQ il with
   | true=>Qm il 0 (D3 fz st) R fun s0=>Aao Γ rec ops il (AcG ops) s0 R fun s=>match aA ow s with
     | some s'=>K s'
     | none=>none
   | false=>match Region.lexB .any ops with
     | true=>rr Γ ops ops.toList (D3 fz st) R fun s=>match aA ow s with
       | some s'=>K s'
       | none=>none
     | false=>none
def Aaq:Hn->List Ad×List (Ad×Nat×Ad×Nat)×Hl
 | .r fz ow il=>(fz,ow,il)
 | _=>([],[], .n)
def sw {R:Type} (N:Ac T->Option R) (K:Exit->Ac T->Option R) (e:Exit) (s:Ac T):Option R:=match e with
 | .normal =>N s
 | e=>K e s
def sx {R:Type} (j:Nat) (K:Exit->Ac T->Option R) (e:Exit) (s:Ac T):Option R:=match e with
 | .exit i=>match Nat.beq i j with
   | true=>K .normal s
   | false=>K (.exit i) s
 | e=>K e s
def MM {α:Type} (h:Hn) (o:Option α):Option α:=match h with
 | .x =>none
 | _=>o
theorem Dq {α:Type} {h:Hn} {o:Option α} {x:α} (q:MM h o=some x):o=some x:=by grind [MM]
def Ip (Γ:List (CE T P I)) (rec:oQ T):Code->Hn->Ac T->(R:Type)->(Exit->Ac T->Option R)->Option R
 | .skip,h,st,_,K=>MM h (K .normal st)
 | .ret,h,st,_,K=>MM h (K .ret st)
 | .exit j,h,st,_,K=>MM h (K (.exit j) st)
 | .label _,h,st,_,K=>MM h (K .normal st)
 | .scope c,h,st,R,K=>MM h (Ip Γ rec c h st R fun e s=>match Mf e with
   | some _=>K e s
   | none=>match e with
     | .normal =>K .normal s
     | _=>none)
 | .block j c,h,st,R,K=>MM h (Ip Γ rec c h st R (sx j K))
 | .cond c x y,h,st,R,K=>MM h (match st.ev c with
   | .c (.k .bool b)=>if(show Bool from b) then Ip Γ rec x h.a st R K else Ip Γ rec y h.b st R K
   | _=>none)
 | .seq a b,h,st,R,K=>match h with
   | .j sh ha hb=>jn (fun v:RT T sh.ts=>match sh.inst st (BQ sh.ts v)with
    | some s=>Ip Γ rec b hb s R K
    | none=>none) (fun j=>Ip Γ rec a ha st R (sw (fun s=>match sh.gen st s with
      | some v=>j v
      | none=>none) K))
   | .x =>none
   | h=>Ip Γ rec a h.a st R (sw (fun s=>Ip Γ rec b h.b s R K) K)
 | .region _ ops dr,h,st,R,K=>MM h (Aap Γ rec ops dr (Aaq h).1 (Aaq h).2.1 (Aaq h).2.2 st R (K .normal))
 | .loop c,h,st,R,K=>match h with
   | .l sh xs hb=>match sh.gen st st with
     | some v0=>(iter (fun v:RT T sh.ts=>match sh.inst st (BQ sh.ts v)with
      | some s=>Ip Γ rec c hb s (RT T sh.ts⊕ET T xs) fun e s'=>match e with
        | .normal =>match sh.gen st s' with
          | some v'=>match sh.inst st (BQ sh.ts v')with
            | some _=>some (.inl v')
            | none=>none
          | none=>none
        | e=>match Mf e with
          | some k=>sv Sum.inr (oW st s' k xs)
          | none=>none
      | none=>none) FU v0).bind (YB st (fun k s=>K (jx k) s) xs)
     | none=>none
   | _=>none
 | _,_,_,_,_=>none
theorem Ak.wkQ {F:Fr} {c:Code} {st:St} {Q:Exit->St->Prop} (h:Ak P F c st (fun e s=> ∃ s',Wk s s'/\Q e s')):Ak P F c st Q:=fun a w G hR=>
 Code.wp_mono (fun _ _ _ ⟨_,G',⟨s',hwk,hq⟩,hR'⟩=>by obtain⟨G'',q⟩:=hwk _ _ _ _ hR';grind) (h a w G hR)
theorem wJ {Γ:List (CE T P I)} {rec:oQ T} (S_:P.follows .mixedOrders =true) (o_:eN P I rec) {ops:Array Oper} {id:Nat} {dr:Bool} {fz:List Ad} {ow:List (Ad×Nat×Ad×Nat)} {il:Hl} {st:Ac T} {H:Aq T} (hw:Ay H st) {R:Type} {K:Ac T->Option R} {r:R}
 (hr:Aap Γ rec ops dr fz ow il st R K=some r) {F:Fr} (hI:F.I=I) {Q:Exit->St->Prop} (hK: ∀ H' an,Nx H st H' an->K an=some r->Q .normal an.toSt):Ak P F (.region id ops dr) st.toSt Q:=by
 obtain⟨⟨H1,n1⟩,w1⟩:=Eh (l:=fz) (Nx.refl hw);refine Ak.wk w1 (Ak.wkQ ?_);have fin: ∀ H' s,Nx H1 (D3 fz st) H' s->(match aA ow s with | some s'=>K s' | none=>none)=some r-> ∃ s',Wk s.toSt s'/\Q .normal s':=by
  intro H' s n q;split at q
  ·rename_i s' hs;obtain⟨⟨H2,n2⟩,w2,_⟩:=Ql (n1.trans n) hs;grind
  ·cases q
 unfold Aap at hr;split at hr
 ·refine Ak.ahL ?_;rw [hI];exact mu o_ il _ 0 _ H1 n1.ok R _ r hr (fun s=> ∃ s',Wk s s'/\Q .normal s') (by grind)
 ·split at hr
  ·obtain⟨s0,⟨⟨H0,n0⟩,_,w0⟩,hr⟩:=Eu 0 il n1.ok R _ r hr;exact Ak.wk w0 (wI S_ o_ n0.ok hr hI (PK:=fun s=> ∃ s',Wk s s'/\Q .normal s') (fun _ h=>h) fun H' s n q=>fin H' s (n0.trans n) q)
  split at hr
  ·rename_i hl;refine Ak.ahM S_ hl ?_;rw [hI];obtain⟨s,⟨⟨H2,n2⟩,_,w2⟩,hr⟩:=ej (Γ:=Γ) (ops:=ops) ops.toList (D3 fz st) H1 n1.ok R _ r hr;grind
  ·cases hr
theorem DT {Γ:List (CE T P I)} {rec:oQ T} (S_:P.follows .mixedOrders =true) (o_:eN P I rec): ∀ (c:Code) (h:Hn) (st:Ac T) (H:Aq T) (R:Type) (K:Exit->Ac T->Option R) (r:R),Ay H st->Ip Γ rec c h st R K=some r->
 ∀ (F:Fr) (Q:Exit->St->Prop),F.I=I->(∀ H' e an,Nx H st H' an->K e an=some r->Q e an.toSt)->Ak P F c st.toSt Q
 | .skip,h,st,H,R,K,r,hw,hr,F,Q,hI,hK=>Ak.skip (hK H _ st (Nx.refl hw) (Dq hr))
 | .ret,h,st,H,R,K,r,hw,hr,F,Q,hI,hK=>Ak.ret (hK H _ st (Nx.refl hw) (Dq hr))
 | .exit j,h,st,H,R,K,r,hw,hr,F,Q,hI,hK=>Ak.exit (hK H _ st (Nx.refl hw) (Dq hr))
 | .label j,h,st,H,R,K,r,hw,hr,F,Q,hI,hK=>Ak.label (hK H _ st (Nx.refl hw) (Dq hr))
 | .scope c,h,st,H,R,K,r,hw,hr,F,Q,hI,hK=>by
   refine Ak.scope (DT S_ o_ c h st H R _ r hw (Dq hr) F _ hI fun H' e an n q=>?_);cases e<;>simp only [Mf]at q<;>first
    | (cases q;done)
    | exact hK H' _ an n q
 | .block j c,h,st,H,R,K,r,hw,hr,F,Q,hI,hK=>by
   refine Ak.block (DT S_ o_ c h st H R _ r hw (Dq hr) F _ hI fun H' e an n q=>?_);cases e with
   | exit i=>
     simp only [sx]at q;simp only [BI];split at q
     ·rename_i hb;rw [if_pos (eq_of_beq_eq_true hb)];grind
     ·rename_i hb;rw [if_neg (fun e=>by simp_all)];grind
   | _=>exact hK H' _ an n q
 | .cond c x y,h,st,H,R,K,r,hw,hr,F,Q,hI,hK=>by
   simp only [Ip]at hr;replace hr:=Dq hr;split at hr
   ·rename_i b hb;have hev:=st.aat c;rw [hb]at hev;refine Ak.cond (b:=b) hev (fun e=>?_) (fun e=>?_)
    ·rw [if_pos e]at hr;exact DT S_ o_ x h.a st H R K r hw hr F Q hI hK
    ·rw [if_neg (by rw [show (show Bool from b)=b from rfl,e];simp)]at hr;exact DT S_ o_ y h.b st H R K r hw hr F Q hI hK
   ·cases hr
 | .region id ops dr,h,st,H,R,K,r,hw,hr,F,Q,hI,hK=>by grind [Ip,wJ,Dq]
 | .seq a b,h,st,H,R,K,r,hw,hr,F,Q,hI,hK=>by
   simp only [Ip]at hr;split at hr
   ·rename_i sh ha hb;unfold jn at hr;refine Sj (X:=RT T sh.ts) (fun v=>match sh.inst st (BQ sh.ts v)with | some s=>s.toSt | none=>st.toSt) (fun v=> ∃ s,sh.inst st (BQ sh.ts v)=some s/\Ip Γ rec b hb s R K=some r) ?_ ?_
    ·refine DT S_ o_ a ha st H R _ r hw hr F _ hI fun H' e an n q=>?_;cases e<;>grind [sw,BW,FG.abU]
    ·rintro v ⟨s,hi,q⟩;rw [hi];obtain⟨H2,n2⟩:=FG.ab6 hw (Dm _ _) hi;exact DT S_ o_ b hb s H2 R K r n2.ok q F Q hI fun H' e an n' q'=>hK H' e an (n2.trans n') q'
   ·cases hr
   ·refine Ak.seq (DT S_ o_ a _ st H R _ r hw hr F _ hI fun H' e an n q=>?_);cases e with
    | normal=>exact DT S_ o_ b _ an H' R K r n.ok q F Q hI fun H'' e aiU n' q'=>hK H'' e aiU (n.trans n') q'
    | _=>exact hK H' _ an n q
 | .loop c,h,st,H,R,K,r,hw,hr,F,Q,hI,hK=>by
   simp only [Ip]at hr;split at hr
   ·rename_i sh xs hb;split at hr
    ·rename_i v0 hg0;obtain⟨o,hi,hx⟩:=bS hr;have al2: ∃ s,sh.inst st (BQ sh.ts v0)=some s:=by obtain⟨z,hz⟩:=oX hi;grind
     obtain⟨s0,hs0⟩:=al2;refine It (fun v=>match sh.inst st (BQ sh.ts v)with | some s=>s.toSt | none=>st.toSt) hi ?_ fun v z hz ho=>?_
     ·rw [hs0];exact FG.abU hw (Nx.refl hw) hg0 hs0
     ·split at hz
      ·rename_i s hs;obtain⟨H2,n2⟩:=FG.ab6 hw (Dm _ _) hs;have arE: ∀ (H':Aq T) (e:Exit) (an:Ac T) (k:Nat),Nx H2 s H' an->Mf e=some k->sv Sum.inr (oW st an k xs)=some z-> ∃ s'',Wk an.toSt s''/\Q e s'':=by intro H' e an k n he q;obtain⟨o',h1,h2⟩:=Qq q;have:=ho o' h2.symm;subst this;obtain⟨s'',H3,w3,n3,k3⟩:=mz (K:=fun k s=>K (jx k) s) hw (n2.trans n) h1 hx;grind [jy]
       have main:=DT S_ o_ c hb s H2 _ _ z n2.ok hz F (fun e s'=>match e with
        | .normal => ∃ v',z= .inl v'/\Wk s' (match sh.inst st (BQ sh.ts v')with | some s=>s.toSt | none=>st.toSt)
        | e=> ∃ s'',Wk s' s''/\Q e s'') hI fun H' e an n q=>by
          cases e with
          | normal=>
            simp only at q;split at q
            ·rename_i v' hg;split at q
             ·rename_i s1 hs1;injection q with q;refine⟨v',q.symm,?_⟩;rw [hs1];exact FG.abU hw (n2.trans n) hg hs1
             ·cases q
            ·cases q
          | ret=>grind
          | exit i=>grind
          | goto l=>cases q
          | panic ch=>cases q
          | outgrown=>cases q
       refine Ak.wkQ (main.mono fun e s' q=>?_);cases e with
       | normal=>exact⟨s',Wk.less (B0.refl _),q⟩
       | _=>exact q
      ·cases hz
    ·cases hr
   ·cases hr
 | .rangeFunc ..,h,st,H,R,K,r,hw,hr,F,Q,hI,hK=>by grind [Ip]
 | .goto _,h,st,H,R,K,r,hw,hr,F,Q,hI,hK=>by grind [Ip]
 | .refuse _,h,st,H,R,K,r,hw,hr,F,Q,hI,hK=>by grind [Ip]
end
end Go.PL
namespace Go.PL
open Go Go.RowKit
variable {T:AX}
def I9:(ts:List VT)->XS T ts->List (DV T)
 | [],_=>[]
 | t::ts,x=>MK t x.1::I9 ts x.2
theorem Qr: ∀ (ts:List VT) (x:XS T ts),AQ (I9 ts x)=Ep ts x
 | [],_=>by simp only [I9,AQ,Ep]
 | t::ts,x=>by simp only [I9,AQ,Ep,L7,Qr ts]
theorem Vn {H:Aq T} {n:Nat}: ∀ (ts:List VT) (x:XS T ts),B7 H n (I9 ts x)
 | [],_=>by simp only [I9,B7]
 | t::ts,x=>by simp only [I9,B7,Oj,Vn ts,and_self]
def Vo (args:List (DV T)) (n:Nat):Ac T:=Er 0 args ⟨n,[],[],[],[],0⟩
theorem YC {args:List (DV T)} {n:Nat} (ha: ∀ H:Aq T,B7 H 0 args): ∃ H,Ay H (Vo args n):=by let H0:Aq T:=⟨fun _=> .u,fun _=>⟨[],0, .box []⟩⟩;have h0:Ay H0 (⟨n,[],[],[],[],0⟩:Ac T):=⟨fun _ _ _ hm=>by simp at hm,(by grind),(by grind),by simp⟩;obtain⟨H,hN⟩:=Nw (i:=0) (Nx.refl h0) (ha H0);exact⟨H,hN.ok⟩
theorem RH {args:List (DV T)} {n:Nat} (hl:args.length<=n):(Vo args n).toSt =St.start (AQ args) n:=by obtain⟨a,b,c,d⟩:=JG args 0 (⟨n,[],[],[],[],0⟩:Ac T);unfold Vo;simp only [Ac.toSt,a,b,c,d,St.start,map_nil,List.flatMap_nil];rw [UX hl];intro j;rw [Ny];simp only [Nat.zero_le,true_and,zero_add,Nat.sub_zero];rfl
section
variable {H:Aq T} {P:Program} {I:World->Prop} {st:Ac T}
def Aar (P:Program) (st:Ac T) (t:VT) (x:ResultVar):M (Dj T t):= .y_ (Ry P st x) fun v=>match Z3 st v with
 | some w=> .sm (rn t w)
 | none=> .no
def YD (P:Program) (st:Ac T):(ts:List VT)->List ResultVar->M (RT T ts)
 | [],[]=> .ret ()
 | [t],[x]=>Aar P st t x
 | t::u::ts,x::xs=> .y_ (Aar P st t x) fun a=> .y_ (YD P st (u::ts) xs) fun b=> .ret (a,b)
 | _,_=> .no
theorem oY (x:ResultVar) (s:St):N2 P s x=((Mx P s x).1,Bc s (Mx P s x).2):=by cases x<;>rfl
theorem mA (hw:Ay H st) (t:VT) (x:ResultVar):Yl (Aar P st t x) (fun r=>(N2 P st.toSt x).1/\(N2 P st.toSt x).2=Dk t r):=
 Yl.y_ (Hj hw x) fun v hv=>by
  obtain⟨a,b,c⟩:=hv;split
  ·rename_i w hs;refine Yl.sm fun r hr=>?_;rw [oY];exact⟨b,by simp only;rw [c,Rv hs,UJ hr]⟩
  ·exact Yl.no
theorem eR (hw:Ay H st): ∀ (ts:List VT) (xs:List ResultVar),Yl (YD P st ts xs) (fun r=>(Ea P st.toSt xs).1/\(Ea P st.toSt xs).2=BL ts r/\xs.length=ts.length)
 | [],[]=>Yl.ret ⟨trivial,by simp only [Ea,BL],rfl⟩
 | [t],[x]=>(mA hw t x).mono fun r h=>⟨⟨h.1,trivial⟩,congrArg (fun z=>[z]) h.2,rfl⟩
 | t::u::ts,x::xs=>Yl.y_ (mA hw t x) fun a ha=>Yl.y_ (eR hw (u::ts) xs) fun b hb=>Yl.ret (by
   simp_all [Ea,BL])
 | [],_::_=>Yl.no
 | [_],[]=>Yl.no
 | [_],_::_::_=>Yl.no
 | _::_::_,[]=>Yl.no
theorem Aas (hw:Ay H st) {ts:List VT} {xs:List ResultVar}:Yl (YD P st ts xs) (fun r=>(CZ P st.toSt xs).1/\(CZ P st.toSt xs).2=F8 ts r):=
 (eR hw ts xs).mono fun r h=>by
  obtain⟨h1,h2,h3⟩:=h
  match ts,xs,r,h1,h2,h3 with
  | [],[],r,h1,h2,_=>grind [CZ,F8,BL]
  | [t],[x],r,h1,h2,_=>
    simp only [Ea]at h1 h2;refine⟨h1.1,?_⟩;have:[(N2 P st.toSt x).2]=[Dk t r]:=h2;injection this
  | t::u::ts,x::y::xs,r,h1,h2,_=>grind [CZ,F8]
  | [],_::_,_,_,_,h3=>simp at h3
  | [_],[],_,_,_,h3=>simp at h3
  | [_],_::_::_,_,_,_,h3=>simp at h3
  | _::_::_,[],_,_,_,h3=>simp at h3
  | _::_::_,[_],_,_,_,h3=>simp at h3
theorem RI: ∀ (ts:List VT) (x:RT T ts),BA (BL ts x)=true
 | [],_=>by simp only [BL,BA]
 | [t],x=>by simp only [BL,BA,Bool.and_true];exact Cz t x
 | t::u::ts,x=>by simp only [BL,BA,Cz,RI (u::ts),Bool.and_self]
theorem YE: ∀ (ts:List VT) (x:RT T ts),(F8 ts x).pure =true
 | [],_=>by simp only [F8,V.pure,BA]
 | [t],x=>Cz t x
 | t::u::ts,x=>by grind [F8,V.pure,RI]
def sy (Γ:List (CE T P I)):Nat->oQ T
 | 0=>fun _ _ _ _ _=>none
 | n+1=>fun R c h st K=>Ip Γ (sy Γ n) c h st R K
theorem aH {Γ:List (CE T P I)} (S_:P.follows .mixedOrders =true): ∀ n,eN P I (sy Γ n)
 | 0=>fun _ _ _ _ _ _ _ _ hr=>by simp [sy]at hr
 | n+1=>fun R c h st H K r hw hr F Q hI hK=>DT S_ (aH S_ n) c h st H R K r hw hr F Q hI hK
def AcM (P:Program) (rs:List VT) (xs:List ResultVar) (e:Exit) (st:Ac T):Option (RT T rs):=match e with
 | .normal =>YD P st rs xs _ some
 | .ret =>YD P st rs xs _ some
 | _=>none
def mB (Γ:List (CE T P I)) (n:Nat) (fn:Func) (body:Code) (h:Hn) (ps rs:List VT) (x:XS T ps):Option (RT T rs):=
 match Nat.ble (I9 ps x).length fn.ntmps with
 | true=>Ip Γ (sy Γ n) body h (Vo (I9 ps x) fn.ntmps) (RT T rs) (AcM P rs fn.results.toList)
 | false=>none
theorem AcN {Γ:List (CE T P I)} (ac7:GX I) (S_:P.follows .mixedOrders =true) {n:Nat} {f:FuncId} {fn:Func} {body:Code} (hf:P.funcs[f]? =some fn) (hb:fn.body=some body) (aao:PL.ent P f=true) {h:Hn} {ps rs:List VT} {x:XS T ps} {r:RT T rs}
 (hr:mB Γ n fn body h ps rs x=some r):Cm P I f (Ep ps x) (· =F8 rs r):=by
 unfold mB at hr;split at hr
 ·rename_i hl;obtain⟨H,hw⟩:=YC (args:=I9 ps x) (n:=fn.ntmps) (fun H=>Vn ps x);refine Cm.of ac7 aao hf hb fun F hI=>?_;rw [<-Qr, <-RH (by simp_all)];refine DT S_ (aH S_ n) body h _ H _ _ r hw hr F _ hI fun H' e an n q=>?_;have fin:YD P an rs fn.results.toList _ some=some r->(CZ P an.toSt fn.results.toList).1/\(CZ P an.toSt fn.results.toList).2.pure =true/\(CZ P an.toSt fn.results.toList).2=F8 rs r:=by intro q;obtain⟨v,⟨h1,h2⟩,h3⟩:=Aas n.ok _ _ r q;grind [YE]
  cases e<;>simp only [AcM,lu]at q ⊢ <;>first
   | exact fin q
   | grind
 ·cases hr
def AeY (Γ:List (CE T P I)) (ac7:GX I) (S_:P.follows .mixedOrders =true) (n:Nat) (f:FuncId) (fn:Func) (body:Code) (h:Hn) (ps rs:List VT) (run:XS T ps->Option (RT T rs)) (hf:P.funcs[f]? =some fn) (hb:fn.body=some body)
    (heq:run=mB Γ n fn body h ps rs) (aao:PL.ent P f=true:=by kernel_rfl):CE T P I where
 f:=f
 ps:=ps
 rs:=rs
 run:=run
 ok:=fun x r q=>AcN (h:=h) ac7 S_ hf hb aao (by rw [<-heq];exact q)
end
end Go.PL
namespace Go.PL
theorem Aat {a b:Prop} (h:a=b) (p:a):b:=h▸p
end Go.PL
namespace Go.PL
open Go Go.RowKit
structure FS where
 den:Type
 inh:Inhabited den
 enc:den->List C
 ks:List Kd
def FS.unit:FS:=⟨Unit,⟨()⟩,fun _=>[],[]⟩
def OA:List (Nat×FS)->Nat->FS
 | [],_=> .unit
 | (k,r)::l,E=>match Nat.beq k E with
   | true=>r
   | false=>OA l E
structure MN (R:Nat->FS) where
 E:Nat
 un:(R E).den ->DK (fun E=>(R E).den) (R E).ks
 bd:DK (fun E=>(R E).den) (R E).ks ->(R E).den
 beq:(R E).den ->(R E).den ->Bool
 ab7: ∀ y,un (bd y)=y
 V_: ∀ x,Bd (fun E=>(R E).enc) (R E).ks (un x)=(R E).enc x
 aeh: ∀ x y,beq x y=Bo ((R E).enc x) ((R E).enc y)
def eT {R:Nat->FS}:List (MN R)->(E:Nat)->Option {e:MN R // e.E=E}
 | [],_=>none
 | e::l,E=>match Nat.decEq e.E E with
   | .isTrue h=>some ⟨e,h⟩
   | .isFalse _=>eT l E
theorem D4 {R:Nat->FS}: ∀ {L1:List (MN R)} {L0:List (Nat×FS)} {E:Nat},L1.map (·.E)=L0.map (·.1)->eT L1 E=none->OA L0 E= .unit
 | [],[],_,_,_=>rfl
 | [],_::_,_,h,_=>by simp at h
 | _::_,[],_,h,_=>by simp at h
 | e::L1,(k,r)::L0,E,h,hf=>by
   simp only [map_cons,List.cons.injEq]at h;unfold eT at hf;split at hf
   ·cases hf
   ·rename_i n_ _;have:Nat.beq k E=false:=by
     cases hb:Nat.beq k E with
     | false=>rfl
     | true=>exact absurd (h.1.trans (eq_of_beq_eq_true hb)) n_
    simp only [OA,this];exact D4 h.2 hf
inductive ac0 (R:Nat->FS) (E:Nat) where
 | some (e:MN R) (h:e.E=E)
 | none (h:R E=FS.unit)
def oZ {R:Nat->FS} (L1:List (MN R)) (hn: ∀ E,eT L1 E=none->R E= .unit) (E:Nat):ac0 R E:=match h:eT L1 E with
 | some e=> .some e.1 e.2
 | none=> .none (hn E h)
section
variable {R:Nat->FS} {E:Nat}
def ac0.un:ac0 R E->(R E).den ->DK (fun E=>(R E).den) (R E).ks
 | .some e h=>h▸e.un
 | .none h=>fun _=>h▸(():DK (fun E=>(R E).den) FS.unit.ks)
def ac0.bd:ac0 R E->DK (fun E=>(R E).den) (R E).ks ->(R E).den
 | .some e h=>h▸e.bd
 | .none h=>fun _=>h▸(():FS.unit.den)
def ac0.beq:ac0 R E->(R E).den ->(R E).den ->Bool
 | .some e h=>h▸e.beq
 | .none _=>fun _ _=>true
theorem ac0.ab7 (s:ac0 R E) (y:DK (fun E=>(R E).den) (R E).ks):s.un (s.bd y)=y:=by
 cases s with
 | some e h=>cases h;exact e.ab7 y
 | none h=>
   show h▸(():DK (fun E=>(R E).den) FS.unit.ks)=y;have: ∀ (D:Nat->Type) (r:FS) (h:r=FS.unit) (y:DK D r.ks),h▸(():DK D FS.unit.ks)=y:=by intro D r h y;subst h;rfl
   exact this _ _ h y
theorem ac0.V_ (s:ac0 R E) (x:(R E).den):Bd (fun E=>(R E).enc) (R E).ks (s.un x)=(R E).enc x:=by
 cases s with
 | some e h=>cases h;exact e.V_ x
 | none h=>
   have: ∀ (r:FS) (h:r=FS.unit) (x:r.den) (z:DK (fun E=>(R E).den) r.ks),Bd (fun E=>(R E).enc) r.ks z=r.enc x:=by intro r h x z;subst h;rfl
   grind
theorem ac0.aeh (s:ac0 R E) (x y:(R E).den):s.beq x y=Bo ((R E).enc x) ((R E).enc y):=by
 cases s with
 | some e h=>cases h;exact e.aeh x y
 | none h=>
   show true=_;have: ∀ (r:FS) (h:r=FS.unit) (x y:r.den),true=Bo (r.enc x) (r.enc y):=by intro r h x y;subst h;rfl
   grind
end
def Aau (L0:List (Nat×FS)) (L1:List (MN (OA L0))) (hk:L1.map (·.E)=L0.map (·.1)):AX where
 den E:=(OA L0 E).den
 inh E:=(OA L0 E).inh
 enc E:=(OA L0 E).enc
 ks E:=(OA L0 E).ks
 un E:=(oZ L1 (fun _ h=>D4 hk h) E).un
 bd E:=(oZ L1 (fun _ h=>D4 hk h) E).bd
 beq E:=(oZ L1 (fun _ h=>D4 hk h) E).beq
 ab7 E:=(oZ L1 (fun _ h=>D4 hk h) E).ab7
 V_ E:=(oZ L1 (fun _ h=>D4 hk h) E).V_
 aeh E:=(oZ L1 (fun _ h=>D4 hk h) E).aeh
end Go.PL
