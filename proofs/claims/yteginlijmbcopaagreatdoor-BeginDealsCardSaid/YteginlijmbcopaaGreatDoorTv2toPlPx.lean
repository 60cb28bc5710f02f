/- The pure logic: Tv2, PlYh, PlPa, PlPb, PlPc, PlPl, PlPq, PlPw, PlPd, PlPx. -/
import Derived.Test.YteginlijmbcopaaGreatDoorTuatoTv
import Derived.Test.YteginlijmbcopaaGreatDoorTatoPlYg
import Derived.Shelf.Spec.SlicesInsert
import Derived.Shelf.Spec.SlicesInsertGrow
import Derived.Test.YteginlijmbcopaaGreatDoorPlRtoPlQa
import Derived.Lib.ItoaNum
import Derived.Lib.AtoiAll
import Derived.Lib.Bytealg
import Derived.Lib.Join
import Derived.JoinedOf
import Derived.Handed
import Derived.LaidSub
import Derived.Lib.LaidTab
set_option linter.all false
namespace Go.PL
open Go Go.RowKit
variable {T:Bl}
theorem Cu.x {P:Program} {I:World->Prop} {f:FuncId} {args:List V} {E n L:Nat} {CS:List C} (h:Cu P I f args E n (fun len cs=>len=L/\cs=CS)):Mr P I f args [⟨false,E,n,L,CS⟩] [.c (.o 0)]:=by
 refine⟨h.ent,rfl,fun w vs av hI hav hr=>(h.run w vs av hI hav hr).mono ?_⟩;rintro e w' ⟨v,len,cs,us,he,⟨q1,q2⟩,hp,hl,hv,hb⟩;subst q1 q2;obtain⟨ob,hfr,adj,hv⟩: ∃ ob:Option Nat,(∀ b,ob=some b->w.heap.size<=b/\b<w'.heap.size)/\v.oneCell'=true/\((∃ p,v= .slice p 0 0/\len=0/\ob=none)\/(ob=v.ownBlock/\Ai w' (im fun b=>av b\/v.ownBlock=some b) cs us/\w'.ownsRow w.heap.size E n v len us)):=by
  rcases hv with ⟨p,q1,q2⟩ | ⟨hrl,aaK⟩
  ·exact⟨none,(by grind),by rw [q1];rfl,(by grind)⟩
  ·refine⟨v.ownBlock,fun b hb'=>aaK.lt b hb',?_,(by grind)⟩;rcases aaK.2 with ⟨q,_⟩ | ⟨g,cap,cur,q,_⟩<;>rw [q]<;>rfl
 let G:AJ:=⟨fun i=>if i=[0]then ob else none,fun i=>if i=[0]then some v else none,fun b=>av b\/ob=some b⟩;have ab5: ∀ i b,G.y_ i=some b->i=[0]/\ob=some b:=(by grind);refine⟨v,[[0]],G,he,rfl,by simp,?_,?_,?_,?_,?_,hb⟩
 ·grind [Nj,PP.toV,PC.toC,Ad,Af]
 ·intro e0 he0;simp only [CN,OE.ent,List.mem_singleton]at he0;subst he0;refine⟨Jk rfl ⟨hl,v,by simp [G],?_⟩,⟨rfl,fun q=>by cases q⟩,hp⟩;rcases hv with ⟨p,q1,h0,q2⟩ | ⟨q1,hrl,aaK⟩
  ·grind
  ·rcases aaK.2 with ⟨q,h0⟩ | ⟨g,cap,cur,q,_,k2,k3,k4,k5,k6⟩
   ·grind [Value.ownBlock]
   ·refine .inr ⟨g,cap,cur,q,by grind [Value.ownBlock],k2,k3,k4,k5,?_⟩;have hr2:Ai w' G cs us:=Ai.mono (G:=im fun b=>av b\/v.ownBlock=some b) ⟨Nat.le_refl _,fun _ _ _=>rfl,fun b _ hw=>by have hw:av b\/ob=some b:=hw;rw [q1]at hw;exact hw,fun _ _ _ _=>B7.same rfl⟩ _ _ (fun i hi=>absurd (show BO i cs=true from hi) (by rw [AU i cs hp];simp)) hrl
    grind [Am.aaY,BA,List.take_append_drop]
 ·grind
 ·grind
 ·intro b;constructor
  ·rintro(q | q)
   ·exact .inl q
   ·exact .inr ⟨[0],by grind⟩
  grind
def Ze {P:Program} {I:World->Prop} (f:FuncId) (ps:List VT) (E:Nat) (run:XS T ps->Option (RT T [.k (.u_ E)])) (h: ∀ x r,run x=some r->Cu P I f (FX ps x) E (T.sz E) (fun len cs=>len=List.length (α:=T.den E) r/\cs=List.flatMap (T.enc E) r)):CE T P I where
 f:=f
 ps:=ps
 rs:=[.k (.u_ E)]
 run:=run
 ok:=fun x r hr=>Cu.flat (h x r hr)
 ow:=[[1]]
 okx:=fun _ x r hr=>(h x r hr).x
end Go.PL
namespace Go.PL
open Go Go.RowKit Go.Proofs
theorem Dr (b:Nat): ∀ (vs:List Value) (o:Nat) (w:World),(w.setCells b o vs).heap.size =w.heap.size/\(w.setCells b o vs).os =w.os/\(w.setCells b o vs).tape =w.tape/\(w.setCells b o vs).output =w.output/\
 ∀ k,k ≠ b->(w.setCells b o vs).heap[k]? =w.heap[k]?
 | [],_,_=>⟨rfl,rfl,rfl,rfl,fun _ _=>rfl⟩
 | v::r,o,w=>by obtain⟨a1,a2,a3,a4,a5⟩:=Dr b r (o+1) (w.setCell ⟨b,o,none⟩ v);rw [World.setCells];refine⟨a1.trans (by simp),a2,a3,a4,fun k hk=>(a5 k hk).trans ?_⟩;simp [World.setCell,Array.getElem?_modify,Ne.symm hk]
theorem DR (b:Nat): ∀ (vs:List Value) (o:Nat) (w:World) (cur:Array Value) (T:TypeId) (fz:Nat×Nat),w.heap[b]? =some (.cells cur T fz)->o+vs.length<=cur.size->
 ∃ adS,(w.setCells b o vs).heap[b]? =some (.cells adS T fz)/\adS.toList=cur.toList.take o++vs++cur.toList.drop (o+vs.length)
 | [],o,w,cur,T,fz,h,_=>⟨cur,h,by simp⟩
 | v::r,o,w,cur,T,fz,h,hl=>by
   simp only [List.length_cons]at hl;have h1:(w.setCell ⟨b,o,none⟩ v).heap[b]? =some (.cells (cur.setIfInBounds o v) T fz):=by grind [World.setCell]
   obtain⟨adS,g1,g2⟩:=DR b r (o+1) _ _ T fz h1 (by simp;omega);refine⟨adS,g1,g2.trans ?_⟩;have ho:o<cur.toList.length:=by simp;omega
   rw [Array.toList_setIfInBounds,List.take_set,List.drop_set_of_lt (by omega),List.length_cons];rw [List.take_succ_eq_append_getElem ho];rw [List.set_append_right _ _ (by simp;omega)];simp only [List.length_take,Nat.min_eq_left (Nat.le_of_lt ho),Nat.sub_self,List.set_cons_zero,List.append_assoc,List.cons_append,List.nil_append];grind
theorem vj {α:Type} {A cs vs R:List α} {i m n:Nat} (hA:A.take i=cs.take i) (hi:i<=n) (hc:cs.length=n) (hv:vs.length=m) (hl:n+m<=A.length):
 (((A.take (i+m)++cs.drop i++R).take i++vs++(A.take (i+m)++cs.drop i++R).drop (i+m)).take (n+m))=cs.take i++vs++cs.drop i:=by
 have l1:(A.take (i+m)).length =i+m:=by grind
 have e1:(A.take (i+m)++cs.drop i++R).take i=cs.take i:=by grind
 have e2:(A.take (i+m)++cs.drop i++R).drop (i+m)=cs.drop i++R:=by grind
 rw [e1,e2, <-List.append_assoc];have l2:(cs.take i++vs++cs.drop i).length =n+m:=by grind
 grind
theorem vk {α:Type} {A cs vs R:List α} {i m n:Nat} (hA:A.take i=cs.take i) (hi:i<=n) (hc:cs.length=n) (hv:vs.length=m) (hl:n+m<=A.length):
 (((A.take i++vs++A.drop (i+m)).take (i+m)++cs.drop i++R).take (n+m))=cs.take i++vs++cs.drop i:=by
 have l1:(cs.take i++vs).length =i+m:=by grind
 rw [hA];have e1:(cs.take i++vs++A.drop (i+m)).take (i+m)=cs.take i++vs:=by grind
 rw [e1];have l2:(cs.take i++vs++cs.drop i).length =n+m:=by grind
 grind
theorem Vq.of {P:Program} {ρ:Go.Shelf.Ren} (L:Lays2.n21 P ρ):Vq P (ρ.f 21) (ρ.t 3):=by
 intro w v n i vb m vc xs us cur T row hv hin hm ox ou hul ap3 hmv hvc hne hvb hvs;have hus: ∀ j u,us[j]? =some u->w.cell? ⟨vb,0+j,none⟩=some u:=by grind [World.cell?]
 have hvl:=hul;have grow: ∀ (base:Option Addr) (c:Nat),i=n->v= .slice base n c->n<=c->c<n+m->(base=none->n=0)->xs.length=n->(∀ a,base=some a-> ∀ j u,xs[j]? =some u->w.cell? (a.add j)=some u)->
  Calls P (ρ.f 21) #[v, .int .i64 i, .slice (some ⟨vb,0,none⟩) m vc] w fun e w'=> ∃ v',e= .returned v'/\w'.ownsRow 0 (ρ.t 3) 1 v' (n+m) (xs.take i++us++xs.drop i)/\
   w.grownBy w' row/\(v'.ownBlock=row\/ ∀ b,v'.ownBlock=some b->w.heap.size<=b):=by
  intro base c hi hv hnc hc hb hx hcs;subst hi hv;refine(Any2.slices_Insert_int_end_grow L base i c vb 0 m vc xs us w hm hnc hc ap3 (by simpa using hx) hvl hb hcs hus ou).mono fun e w' ⟨he,hw⟩=>?_;refine⟨_,he,?_,?_,(by grind [Value.ownBlock])⟩
  ·rw [hw];have hge:=grownCap_ge w (i+m) c (ρ.t 3);refine⟨by simp;omega, .inr ⟨w.heap.size,_,_,rfl,Nat.zero_le _,heap_alloc_new w.drew _,hge,(by grind [grownCap_le_maxLen,maxLen]),?_,?_⟩⟩
   ·grind [Builtin.zeroCells,Value.cells]
   grind
  ·rw [hw];exact⟨rfl,rfl,rfl,by simp,fun k hk _=>heap_alloc_old w.drew _ hk⟩
 rcases hv with ⟨aaK,Tc⟩ | ⟨p,hv,hn,hx,Tc⟩
 ·rcases aaK.2 with ⟨hv,hn⟩ | ⟨g,cap,cu,hv,hbg,hg,hnc,hcm,hcs,aue⟩
  ·exact grow none 0 (by omega) (by rw [hv,hn]) (by omega) (by omega) (fun _=>hn) (by have:=aaK.1;grind) (by grind)
  ·have hx:xs.length=n:=by grind
   have ae4:row=some g:=by rw [Tc,hv];rfl
   have ad4:vb ≠ g:=(by grind);simp only [Nat.mul_one]at hcs aue;have aco: ∀ j u,xs[j]? =some u->w.cell? ((⟨g,0,none⟩:Addr).add j)=some u:=aaK.cells (g:=g) (by rw [hv];rfl);have arR: ∀ j u,xs[j]? =some u->w.cell? ⟨g,0+j,none⟩=some u:=(by grind [Addr.add_lit]);have ayN: ∀ j,j<cap->(w.cell? ⟨g,j,none⟩).isSome =true:=(by grind [World.cell?]);have hfz: ∀ j,w.frozen? ⟨g,j,none⟩=false:=(by grind [World.frozen?]);have hfv: ∀ j,w.frozen? ⟨vb,j,none⟩=false:=(by grind [World.frozen?]);have finish: ∀ (w':World) (c':Array Value),w'.heap[g]? =some (.cells c' (ρ.t 3) (0,0))->c'.toList.length=cap->n+m<=cap->c'.toList.take (n+m)=(xs.take i++us++xs.drop i)->
    w'.ownsRow 0 (ρ.t 3) 1 (.slice (some ⟨g,0,none⟩) (n+m) cap) (n+m) (xs.take i++us++xs.drop i):=fun w' c' h1 h2 h3 h4=>
    ⟨by simp;omega, .inr ⟨g,cap,c',rfl,Nat.zero_le _,h1,h3,hcm,by simpa using h2,by simpa using h4⟩⟩
   by_cases alm:n+m<=cap
   ·by_cases hi:i=n
    ·subst hi hv;refine(Any2.slices_Insert_int_end_room L g 0 i cap vb 0 m vc us w hm alm (by unfold maxLen at hcm;omega) hvl (fun j hj=>ayN _ (by omega)) (fun j _=>hfz _) hus ou).mono fun e w' ⟨he,hw⟩=>?_;obtain⟨f1,f2,f3,f4,f5⟩:=Dr g us (0+i) w;obtain⟨c',g1,g2⟩:=DR g us (0+i) w cu _ _ hg (by rw [hvl];omega);rw [<-hw]at f1 f2 f3 f4 f5 g1;refine⟨_,he,(by grind),⟨f2,f3,f4,by omega,(by grind)⟩, .inl (by rw [ae4];rfl)⟩
     all_goals grind
    ·subst hv;refine(Any2.slices_Insert_int_shift L g 0 n cap i vb 0 m vc xs us w (by omega) hm alm (by grind [maxLen]) ad4 (by grind) hvl arR (by grind) (fun j _=>hfz _) hus ox ou
      T (ρ.t 3) vc cap (by grind [World.shape?]) (by grind [World.shape?]) (by omega) (hfv _) (hfv _)).mono fun e w' ⟨he,hw⟩=>?_
     have hdl:(xs.drop i).length =n - i:=by grind
     obtain⟨f1,f2,f3,f4,f5⟩:=Dr g (xs.drop i) (0+(i+m)) w.drew;obtain⟨c1,g1,g2⟩:=DR g (xs.drop i) (0+(i+m)) w.drew cu _ _ hg (by grind);obtain⟨k1,k2,k3,k4,k5⟩:=Dr g us (0+i) (w.drew.setCells g (0+(i+m)) (xs.drop i));have hc1:c1.toList.length=cap:=by grind
     obtain⟨c2,e1,e2⟩:=DR g us (0+i) _ c1 _ _ g1 (by grind);rw [<-hw]at k1 k2 k3 k4 k5 e1;refine⟨_,he,finish w' c2 e1 ?_ alm ?_,⟨k2.trans f2,k3.trans f3,k4.trans f4,by simp_all,fun k _ hk=>(k5 k fun q=>hk (by rw [ae4,q])).trans (f5 k fun q=>hk (by rw [ae4,q]))⟩, .inl (by rw [ae4];rfl)⟩
     ·rw [e2];simp only [List.length_append,List.length_take,List.length_drop];omega
     ·rw [e2,g2,Nat.zero_add,Nat.zero_add,hvl];rw [vj (A:=cu.toList) (cs:=xs) (by grind) (by omega) (by grind) hvl (by simp;omega)]
   ·by_cases hi:i=n
    ·grind
    ·subst hv;refine(Any2.slices_Insert_int_grow L g 0 n cap i vb 0 m vc xs us w (by omega) hm hnc (by omega) ap3 (by grind) hvl arR hus ox ou).mono fun e w' ⟨he,hw⟩=>?_;have hge:=grownCap_ge w (n+m) cap (ρ.t 3);have azk:=grownCap_le_maxLen w (n+m) cap (ρ.t 3) (by unfold maxLen;omega);obtain⟨C,hC⟩: ∃ C,C=grownCap w (n+m) cap (ρ.t 3):=⟨_,rfl⟩;rw [<-hC]at he hw hge azk;obtain⟨ROW,azs⟩: ∃ ROW:Array Value,ROW=(xs.take i).toArray ++Builtin.zeroCells (Value.int .i64 0).cells (n+m - i)++Builtin.zeroCells (Value.int .i64 0).cells (C - (n+m)):=⟨_,rfl⟩;rw [<-azs]at hw;have hRs:ROW.size=C:=by rw [azs];simp [Builtin.zeroCells,Value.cells];omega
     have hRt:ROW.toList.take i=xs.take i:=by grind
     have h0:(w.alloc (.cells ROW (ρ.t 3))).drew.heap[w.heap.size]? =some (.cells ROW (ρ.t 3) (0,0)):=heap_alloc_new w _;obtain⟨W1,hW1⟩: ∃ W1,W1=(w.alloc (.cells ROW (ρ.t 3))).drew :=⟨_,rfl⟩;have av8:W1.heap.size=w.heap.size+1/\W1.os=w.os/\W1.tape=w.tape/\W1.output=w.output/\ ∀ k,k<w.heap.size->W1.heap[k]? =w.heap[k]? :=by rw [hW1];exact⟨by simp,rfl,rfl,rfl,fun k hk=>heap_alloc_old w _ hk⟩
     rw [<-hW1]at hw h0;have hdl:(xs.drop i).length =n - i:=by grind
     obtain⟨f1,f2,f3,f4,f5⟩:=Dr w.heap.size us i W1;obtain⟨c1,g1,g2⟩:=DR w.heap.size us i W1 ROW _ _ h0 (by grind);obtain⟨k1,k2,k3,k4,k5⟩:=Dr w.heap.size (xs.drop i) (i+m) (W1.setCells w.heap.size i us).drew;have hc1:c1.toList.length=C:=by grind
     obtain⟨c2,e1,e2⟩:=DR w.heap.size (xs.drop i) (i+m) (W1.setCells w.heap.size i us).drew c1 _ _ g1 (by grind);rw [<-hw]at k1 k2 k3 k4 k5 e1;refine⟨_,he,⟨by simp;omega, .inr ⟨w.heap.size,C,c2,rfl,Nat.zero_le _,e1,hge,azk,?_,?_⟩⟩,⟨k2.trans (f2.trans av8.2.1),(by simp_all),k4.trans (f4.trans av8.2.2.2.1),?_,fun k hk _=>?_⟩,(by grind [Value.ownBlock])⟩
     ·grind
     ·rw [Nat.mul_one,e2,g2,hvl];rw [vk (A:=ROW.toList) (cs:=xs) hRt (by omega) (by grind) hvl (by simp;omega)]
     ·grind
     ·rw [k5 k (by omega)];exact(f5 k (by omega)).trans (av8.2.2.2.2 k hk)
 grind
end Go.PL
namespace Go.PL
open Go
theorem Ay {x:Int} (h0: -9223372036854775808<=x) (h1:x<=9223372036854775807):Ab x=x:=by grind [Ab,IntKind.wrap_i64]
theorem MD {x:Int} (h0:0<=x) (h1:x<=18446744073709551615):IntKind.u64.wrap x=x:=by unfold IntKind.wrap;simp only [IntKind.bits,IntKind.signed,Bool.false_and];simp;omega
theorem vl {x:Int} (h0:0<=x) (h1:x<=255):IntKind.u8.wrap x=x:=by unfold IntKind.wrap;simp only [IntKind.bits,IntKind.signed,Bool.false_and];simp;omega
theorem p9 (x:Int):0<=IntKind.u64.wrap x/\IntKind.u64.wrap x<=18446744073709551615:=by unfold IntKind.wrap;simp only [IntKind.bits,IntKind.signed,Bool.false_and];simp;omega
section
variable {σ ρ:Type} {B:σ->Option (σ⊕ρ)}
theorem BZ {n:Nat} {s s':σ} (h:B s=some (.inl s')):iter B (n+1) s=iter B n s':=by simp [iter,h]
theorem A8 {n:Nat} {s:σ} {r:ρ} (h:B s=some (.inr r)):iter B (n+1) s=some r:=by simp [iter,h]
theorem mg {S:Nat->σ} {r:ρ} {j:Nat} (hs: ∀ i,i<j->B (S i)=some (.inl (S (i+1)))) (he:B (S j)=some (.inr r)): ∀ (k N i:Nat),i+k=j->k<N->iter B N (S i)=some r
 | 0,N+1,i,hi,_=>by obtain rfl:i=j:=by omega
                    exact A8 he
 | k+1,N+1,i,hi,hN=>by rw [BZ (hs i (by omega))];exact mg hs he k N (i+1) (by omega) (by omega)
theorem Ch (S:Nat->σ) {r:ρ} (j:Nat) (hj:j<9223372036854775807) (hs: ∀ i,i<j->B (S i)=some (.inl (S (i+1)))) (he:B (S j)=some (.inr r)) {s0:σ} (h0:s0=S 0):iter B FU s0=some r:=by subst h0;exact mg hs he j FU 0 (by omega) hj
end
section
variable {α:Type} [Inhabited α] {l:List α} {i:Int}
theorem Zf (h:0<=i/\i<l.length):idx l i=some (l.getD i.toNat default):=if_pos h
theorem Al {k:Nat} (h:k<l.length):idx l (k:Int)=some l[k]:=by grind [Zf]
theorem Abr (o:Option α):gd true o=o:=if_pos rfl
end
theorem Ds {α:Type} {b:Nat} {l m:List α} (h:(l.length+m.length)*b<=140737488355328/\l.length+m.length<=maxLen):app b l m=some (l++m):=if_pos h
theorem LS {a b:List UInt8} (h:a.length+b.length<=maxLen):cat a b=some (a++b):=if_pos h
theorem C5 {p:Prop} [Decidable p] (h:p):A1 p=some ():=if_pos h
def dgc (n:Int):UInt8:=UInt8.ofNat (48+(n.toNat % 10))
theorem ME (k u:Nat) (h:u<10 ^ (k+1)):(Lib.decDigits u).length <=k+1:=by
 induction k generalizing u with
 | zero=>simp_all [Lib.decDigits]
 | succ k ih=>
   grind [Lib.decDigits]
theorem iK {n:Int} (h0: -9223372036854775808<=n) (h1:n<=9223372036854775807):(Lib.itoa n).length <=21:=by
 unfold Lib.itoa;split
 ·have:=ME 19 n.natAbs (by omega);simp;omega
 ·have:=ME 19 n.toNat (by omega);omega
theorem mh {u:Int} (h0:0<=u):Lib.decDigits u.toNat=(if u / 10=0 then [] else Lib.decDigits (u / 10).toNat)++[dgc u]:=by
 conv=>lhs;rw [Lib.decDigits]
 by_cases h:u.toNat<10
 ·rw [dif_pos h,if_pos (by omega),dgc,Nat.mod_eq_of_lt h];rfl
 ·have e:u.toNat / 10=(u / 10).toNat :=by omega
  rw [dif_neg h,if_neg (by omega),dgc,e]
def vm (u:Int) (s:List UInt8):Option ((Int×(List UInt8))⊕((List UInt8))):=
 (if(decide ((0:Int)<u)) then
  (A1 (∀ n∈([IntKind.u8.wrap (IntKind.u64.wrap ((48:Int)+(Int.tmod u (10:Int))))]:List (Int)),0<=n/\n<256)).bind fun _=>
  (cat (Ju ([IntKind.u8.wrap (IntKind.u64.wrap ((48:Int)+(Int.tmod u (10:Int))))]:List (Int))) s).bind fun s12=>
  some (.inl ((IntKind.u64.wrap (Int.tdiv u (10:Int))),s12))
 else
  some (.inr s))
def iL (a0:Int):Option ((List UInt8)):=
 (A1 (∀ n∈([IntKind.u8.wrap (IntKind.u64.wrap ((48:Int)+(Int.tmod a0 (10:Int))))]:List (Int)),0<=n/\n<256)).bind fun _=>
 (iter (fun(v:Int×(List UInt8))=>vm v.1 v.2) FU ((IntKind.u64.wrap (Int.tdiv a0 (10:Int))),(Ju ([IntKind.u8.wrap (IntKind.u64.wrap ((48:Int)+(Int.tmod a0 (10:Int))))]:List (Int))))).bind (fun o0=>some o0)
def sU (a0:Int):Option ((List UInt8)):=
 (if(decide (a0<(0:Int))) then
  (iL (IntKind.u64.wrap (0 - (IntKind.u64.wrap (a0))))).bind fun r2=>
  (cat [45] r2).bind fun s3=>
  some s3
 else
  (iL (IntKind.u64.wrap (a0))).bind fun r4=>
  some r4)
theorem sV {u:Int} (h0:0<=u) (h1:u<=18446744073709551615):IntKind.u8.wrap (IntKind.u64.wrap ((48:Int)+(Int.tmod u (10:Int))))=48+((u.toNat % 10:Nat):Int):=by grind [MD,vl]
theorem sW {u:Int} (h0:0<=u) (h1:u<=18446744073709551615):IntKind.u64.wrap (Int.tdiv u (10:Int))=u / 10:=by grind [MD]
theorem mi {u:Int} (h0:0<=u) (h1:u<=18446744073709551615): ∀ n∈([IntKind.u8.wrap (IntKind.u64.wrap ((48:Int)+(Int.tmod u (10:Int))))]:List (Int)),0<=n/\n<256:=by grind [sV]
theorem fj {u:Int} (h0:0<=u) (h1:u<=18446744073709551615):Ju ([IntKind.u8.wrap (IntKind.u64.wrap ((48:Int)+(Int.tmod u (10:Int))))]:List (Int))=[dgc u]:=by grind [sV,Ju,dgc]
theorem Abt {u:Int} {s:List UInt8} (h0:0<u) (h1:u<=18446744073709551615) (hs:s.length<=1000):vm u s=some (.inl (u / 10,dgc u::s)):=by unfold vm;rw [if_pos (by simpa using h0),C5 (mi (by omega) h1),fj (by omega) h1,LS (by simp [maxLen];omega),sW (by omega) h1];rfl
theorem mj (s:List UInt8):vm 0 s=some (.inr s):=by simp [vm]
theorem ml: ∀ (k:Nat) (u:Int) (s:List UInt8) (N:Nat),0<=u->u<10 ^ k->u<=18446744073709551615->s.length+k<=1000->k<N->
 iter (fun(v:Int×(List UInt8))=>vm v.1 v.2) N (u,s)=some ((if u=0 then [] else Lib.decDigits u.toNat)++s)
 | 0,u,s,N+1,h0,h1,h2,hs,hN=>by
   obtain rfl:u=0:=by grind
   grind [A8,mj]
 | k+1,u,s,N+1,h0,h1,h2,hs,hN=>by
   by_cases hu:u=0
   ·grind [A8,mj]
   ·rw [BZ (s':=(u / 10,dgc u::s)) (Abt (by omega) h2 (by show s.length<=1000;omega)),ml k (u / 10) (dgc u::s) N (by omega) (by grind) (by omega) (by simp;omega) (by omega)];simp_all [mh]
theorem fk {u:Int} (h0:0<=u) (h1:u<=18446744073709551615):iL u=some (Lib.decDigits u.toNat):=by unfold iL;rw [C5 (mi h0 h1),fj h0 h1,sW h0 h1];simp only [Option.bind_some];rw [ml 20 (u / 10) [dgc u] FU (by omega) (by omega) (by omega) (by simp) (by simp [FU])];grind [mh]
theorem mn {n:Int} (h0: -9223372036854775808<=n) (h1:n<=9223372036854775807):sU n=some (Lib.itoa n):=by
 have wu: ∀ x:Int,IntKind.u64.wrap x=x % 18446744073709551616:=by grind [IntKind.wrap,IntKind.bits,IntKind.signed]
 unfold sU Lib.itoa;by_cases hn:n<0
 ·rw [if_pos (by simpa using hn),if_pos hn];have e:IntKind.u64.wrap (0 - IntKind.u64.wrap n)= -n:=by grind
  rw [e,fk (by omega) (by omega)];have hl:=ME 19 (-n).toNat (by omega);grind [LS,maxLen]
 ·rw [if_neg (by simpa using hn),if_neg hn,MD (by omega) (by omega),fk (by omega) (by omega)];rfl
end Go.PL
namespace Go.PL
open Go Go.RowKit Go.WideShapes Go.ChangeShapes
def CA (k:IntKind) (v:Int):Prop:=(Lit.int k v).wf =true
def iM (_:Bool):Prop:=True
def okS (v:List UInt8):Prop:=v.length<=reachBytes
def V9 {α:Type} (b:Nat) (ok:α->Prop) (l:List α):Prop:=l.length*b<=reachBytes/\ ∀ y∈l,ok y
section
variable {P:Program} {t e:TypeId} {n:Nat} {cs:List C}
theorem dI {k:IntKind} (hu:P.underlying t=some (.int k)) (h:A7 P n t cs): ∃ z,cs=eI k z/\CA k z:=uf hu h
theorem dB (hu:P.underlying t=some .bool) (h:A7 P n t cs): ∃ b,cs=eB b/\iM b:=oR hu h
theorem dS (hu:P.underlying t=some .string) (h:A7 P n t cs): ∃ s,cs=eS s/\okS s:=uh hu h
theorem dL {α:Type} {enc:α->List C} {ok:α->Prop} {b:Nat} (hu:P.underlying t=some (.slice e)) (hb:P.bytesOf e=b) (hd: ∀ {n ds},A7 P n e ds-> ∃ x,ds=enc x/\ok x) (h:A7 P n t cs):
 ∃ l:List α,cs=eL enc l/\V9 b ok l:=ww hu hb (fun _ _=>hd) h
theorem dA {α:Type} {m:Nat} {enc:α->List C} {ok:α->Prop} (hu:P.underlying t=some (.array m e)) (hd: ∀ {n ds},A7 P n e ds-> ∃ x,ds=enc x/\ok x) (h:A7 P n t cs):
 ∃ l:List α,l.length=m/\cs=l.flatMap enc/\ ∀ y∈l,ok y:=by
 cases n with
 | zero=>exact h.elim
 | succ n=>
   simp only [A7,hu]at h;obtain⟨CO,rfl,h2,h3⟩:=h;obtain⟨l,rfl,h5⟩:=XH (fun _=>hd) h3;grind
end
section
variable {R:TypeId->List C->Prop}
theorem Ar {t:TypeId} {ts:List TypeId} {α β:Type} {e:α->List C} {E:β->List C} {ok:α->Prop} {OK:β->Prop} (hd: ∀ {ds},R t ds-> ∃ x,ds=e x/\ok x) (hr: ∀ {CO},TD R ts CO-> ∃ y,CO.flatten=E y/\OK y) {CO:List (List C)} (h:TD R (t::ts) CO):
 ∃ p:α×β,CO.flatten=e p.1++E p.2/\ok p.1/\OK p.2:=by
 simp only [TD]at h;obtain⟨ds,r,rfl,h1,h2⟩:=h;obtain⟨x,rfl,h3⟩:=hd h1;obtain⟨y,h4,h5⟩:=hr h2;exact⟨(x,y),by grind,h3,h5⟩
theorem E6 {CO:List (List C)} (h:TD R [] CO): ∃ _:Unit,CO.flatten=[]/\True:=by simp only [TD]at h;simp_all
end
section
variable {H:Type} {enc:TypeId×Value->H} {P:Program} {W:World} {spare:Nat->Bool} {r:Reach} {base:Nat} {t:TypeId} {v:Value} {d:DataW H} {ps:List MemPlace}
theorem QN {ts:List TypeId} {ds:List (DataW H)} (h:(DataW.weightsEach P (t::ts) (d::ds)).all (· <=reachBytes)=true):(d.weights P t).all (· <=reachBytes)=true/\(DataW.weightsEach P ts ds).all (· <=reachBytes)=true:=by simp_all [DataW.weightsEach]
theorem Abu {α:Type} {e:α->List C} {ok:α->Prop} {fs:Array Field} (k:Nat) (hk:z7 P k t=true) (hu:P.underlying t=some (.struct fs)) (hd: ∀ {n cs},A7 P n t cs-> ∃ x,cs=e x/\ok x)
 (hv:Value.okWide P W r base t v) (h:DataW.Trod enc P W 0 spare true t v d ps) (hw:(d.weights P t).all (· <=reachBytes)=true): ∃ x,ok x/\Ad W (im fun _=>False) (vA e x) v:=by
 obtain⟨arr,rfl,_⟩:=okWide_struct hu hv;obtain⟨fuel,h⟩:=h;obtain⟨cs,h1,h2,_⟩:=LC (G:=im fun _=>False) (fun _ _ h=>h) k t hk fuel _ _ h hw;obtain⟨x,rfl,h4⟩:=hd h2;exact⟨x,h4,by simp only [Ad];exact⟨arr,rfl,h1⟩⟩
theorem Abv {α:Type} {e:α->C} {ok:α->Prop} (k:Nat) (hk:z7 P k t=true) (hd: ∀ {n cs},A7 P n t cs-> ∃ x,cs=[e x]/\ok x)
 (hc:v.cells.toList=[v]) (h:DataW.Trod enc P W 0 spare true t v d ps) (hw:(d.weights P t).all (· <=reachBytes)=true): ∃ x,ok x/\Ad W (im fun _=>False) (.c (e x)) v:=by
 obtain⟨fuel,h⟩:=h;obtain⟨cs,h1,h2,_⟩:=LC (G:=im fun _=>False) (fun _ _ h=>h) k t hk fuel _ _ h hw;obtain⟨x,rfl,h4⟩:=hd h2;grind [Ai,Ad]
theorem yp {α:Type} {e:α->List C} {ok:List α->Prop} {u:TypeId} (n:Nat) (hk:z7 P n t=true) (hu:P.underlying t=some (.slice u)) (hd: ∀ {n cs},A7 P n t cs-> ∃ x,cs=eL e x/\ok x)
 (hv:Value.okWide P W r base t v) (h:DataW.Trod enc P W 0 spare true t v d ps) (hw:(d.weights P t).all (· <=reachBytes)=true): ∃ x,ok x/\Ad W (im fun _=>False) (vL e x) v:=by
 obtain⟨a,len,cap,rfl⟩:=okWide_slice hu hv;exact Abv (e:=fun x:List α=> .sl x.length (x.flatMap e)) n hk hd rfl h hw
end
end Go.PL
namespace Go.PL
open Go
def W {α:Type} (o:Option α) (Q:α->Prop):Prop:= ∃ r,o=some r/\Q r
def LQ {σ ρ:Type} (I:σ->Prop) (m:σ->Nat) (s:σ) (K:ρ->Prop):σ⊕ρ->Prop:=Sum.elim (fun s'=>I s'/\m s'<m s) K
section
variable {α β σ ρ:Type} {o:Option α} {P Q':α->Prop} {f:α->Option β} {Q:β->Prop} {v:α} {g c:Bool}
theorem W.bd (h:W o P) (k: ∀ x,P x->W (f x) Q):W (o.bind f) Q:=by obtain⟨r,rfl,h2⟩:=h;exact k r h2
theorem W.lt (k: ∀ x,x=v->W (f x) Q):W ((some v).bind f) Q:=k v rfl
theorem W.rt {v:β} (h:Q v):W (some v) Q:=⟨v,rfl,h⟩
theorem W.if {a b:Option β} (k1:c=true->W a Q) (k2:c=false->W b Q):W (if c then a else b) Q:=by grind
theorem W.imp {Q2:α->Prop} (h:W o P) (k: ∀ x,P x->Q2 x):W o Q2:=by obtain⟨r,h1,h2⟩:=h;exact⟨r,h1,k r h2⟩
theorem W.gb [Inhabited α] (h:g=true->W o P) (k: ∀ x,(g=true->P x)->W (f x) Q):W ((gd g o).bind f) Q:=by
 cases g
 ·exact k default (fun h=>by cases h)
 ·obtain⟨r,h1,h2⟩:=h rfl;grind [Abr]
theorem mo [Inhabited α] {l:List α} {i:Nat} (h:i<l.length):l.getD i default∈l:=by grind
theorem W.idx [Inhabited α] {l:List α} {i:Int} (h:0<=i/\i<l.length):W (idx l i) (fun e=>e∈l/\e=l.getD i.toNat default/\idx l i=some e):=
 ⟨_,Zf h,mo (by omega),rfl,Zf h⟩
theorem W.re (h:o=some v) (k:W (f v) Q):W (o.bind f) Q:=by grind
theorem W.app {b:Nat} {l m:List α} (h:(l.length+m.length)*b<=140737488355328) (h2:l.length+m.length<=maxLen):W (app b l m) (fun e=>e=l++m):=⟨_,Ds ⟨h,h2⟩,rfl⟩
theorem W.cat {a b:List UInt8} (h:a.length+b.length<=9223372036854775807):W (cat a b) (fun e=>e=a++b/\e.length=a.length+b.length):=⟨_,LS (by unfold maxLen;omega),rfl,List.length_append⟩
theorem W.nx {I:σ->Prop} {m:σ->Nat} {s s':σ} {K:ρ->Prop} (h:I s') (h2:m s'<m s):W (some (.inl s':σ⊕ρ)) (LQ I m s K):=⟨_,rfl,h,h2⟩
theorem W.ex {I:σ->Prop} {m:σ->Nat} {s:σ} {K:ρ->Prop} {r:ρ} (h:K r):W (some (.inr r:σ⊕ρ)) (LQ I m s K):=⟨_,rfl,h⟩
theorem yq {B:σ->Option (σ⊕ρ)} {I:σ->Prop} {m:σ->Nat} {K:ρ->Prop} (hs: ∀ s,I s->W (B s) (LQ I m s K)): ∀ (n:Nat) (s:σ),I s->m s<n->W (iter B n s) K
 | 0,_,_,h=>by omega
 | n+1,s,hI,hm=>by
   obtain⟨x,h1,h2⟩:=hs s hI;cases x with
   | inl s'=>rw [BZ h1];exact yq hs n s' h2.1 (by have:=h2.2;omega)
   | inr r=>rw [A8 h1];exact⟨r,rfl,h2⟩
theorem W.it {B:σ->Option (σ⊕ρ)} {f:ρ->Option β} {s0:σ} (I:σ->Prop) (m:σ->Nat) (h0:I s0) (hm:m s0<9223372036854775807) (hs: ∀ s,I s->W (B s) (LQ I m s (fun r=>W (f r) Q))):W ((iter B FU s0).bind f) Q:=by obtain⟨r,h1,h2⟩:=yq hs FU s0 h0 hm;grind
end
theorem W.acT {l:List UInt8} {i:Int} (h:0<=i/\i<l.length):W (acT l i) (fun e=>0<=e/\e<256):=by
 refine⟨_,if_pos h,?_,?_⟩
 ·omega
 ·have:=(l.getD i.toNat 0).toNat_lt;omega
theorem bz:(∀ {p:Prop} [Decidable p] {b:Bool},((if p then true else b)=true)=(p\/b=true))/\(∀ {p:Prop} [Decidable p] {b:Bool},((if p then true else b)=false)=(¬p/\b=false))/\(∀ {p:Prop} [Decidable p] {b:Bool},((if p then b else false)=true)=(p/\b=true))/\(∀ {p:Prop} [Decidable p] {b:Bool},((if p then b else false)=false)=(¬p\/b=false))/\(∀ {a:Bool},((!a)=true)=(a=false))/\(∀ {a:Bool},((!a)=false)=(a=true))/\(∀ {p:Prop} [Decidable p],(decide p=true)=p)/\(∀ {p:Prop} [Decidable p],(decide p=false)= ¬p)/\(∀ {a b:Int},((a==b)=true)=(a=b))/\(∀ {a b:Int},((a==b)=false)= ¬(a=b))/\(∀ {a b:Int},((a != b)=true)= ¬(a=b))/\(∀ {a b:Int},((a != b)=false)=(a=b))/\(∀ {a:Bool},((a==true)=true)=(a=true))/\(∀ {a:Bool},((a==true)=false)=(a=false))/\(∀ {a:Bool},((a==false)=true)=(a=false))/\(∀ {a:Bool},((a==false)=false)=(a=true))/\(∀ {a b:Bool},((a&&b)=true)=(a=true/\b=true))/\(∀ {a b:Bool},((a&&b)=false)=(a=false\/b=false))/\(∀ {a b:List UInt8},((a==b)=true)=(a=b))/\(∀ {a b:List UInt8},((a==b)=false)= ¬(a=b))/\(∀ {a b:List UInt8},((a != b)=true)= ¬(a=b))/\(∀ {a b:List UInt8},((a != b)=false)=(a=b))/\(∀ {a:Bool},(¬(a=true))=(a=false))/\(∀ {a:Bool},(¬(a=false))=(a=true))/\(∀ {p q:Prop},(¬(p\/q))=(¬p/\ ¬q)):=(by simp_all)
end Go.PL
namespace Go.PL
open Go
set_option linter.all false
theorem gdB (g q:Bool):gd g (some q)=some (g&&q):=by cases g<;>rfl
theorem ifA (b q:Bool):(if b then q else false)=(b&&q):=by grind
theorem ifO (b q:Bool):(if b then true else q)=(b||q):=by grind
theorem bT (b:Bool):(b==true)=b:=by simp_all
theorem bF (b:Bool):(b==false)= !b:=by grind
section
variable {α:Type} [Inhabited α] [DecidableEq α] {l m:List α} {B:Int->Option (Int⊕(Unit⊕Unit))}
theorem AeO (hl:l.length=m.length) (hB: ∀ (i:Nat) (h:i<l.length) (h':i<m.length),B (i:Int)=some (if l[i]=m[i]then .inl ((i:Int)+1)else .inr (.inl ()))) (hE:B (l.length:Int)=some (.inr (.inr ()))):
 ∀ (k i N:Nat),i+k=l.length->k<N->iter B N (i:Int)=some (if l.drop i=m.drop i then .inr ()else .inl ())
 | 0,i,N+1,hi,_=>by
   obtain rfl:i=l.length:=by omega
   grind [A8]
 | k+1,i,N+1,hi,hN=>by
   have h:i<l.length:=by omega
   have h':i<m.length:=by omega
   have:=hB i h h';rw [List.drop_eq_getElem_cons h,List.drop_eq_getElem_cons h'];by_cases he:l[i]=m[i]
   ·rw [if_pos he]at this;rw [BZ this];have e:((i:Int)+1)=((i+1:Nat):Int):=by omega
    rw [e,AeO hl hB hE k (i+1) N (by omega) (by omega)];grind
   ·rw [if_neg he]at this;rw [A8 this,if_neg (fun h=>he (List.cons.inj h).1)]
end
theorem ifN (b q:Bool):(if b then some false else some q)=some (!b&&q):=by grind
theorem ifP (b q:Bool):(if b then some q else some false)=some (b&&q):=by grind
theorem aan (a b:Bool):(!a|| !(a&&b))=(!a|| !b):=by grind
section
variable {α:Type} [Inhabited α] [DecidableEq α] {l m:List α} {B:Int->Option (Int⊕(Unit⊕Unit))}
end
theorem Uk {α:Type} [Inhabited α] (g:Bool) (x:α):gd g (some x)=some (if g then x else default):=by cases g<;>rfl
abbrev T {α:Type} (o:Option α):Prop:= ∃ r,o=some r
theorem yr {α:Type} {c:Bool} {a b:Option α} (h1:T a) (h2:T b):T (if c then a else b):=by grind
theorem sX {α:Type} [Inhabited α] {l:List α} {i:Nat} (h:i<l.length):l.getD i default=l[i]:=by grind
theorem AeP {α:Type} {b:Nat} {l m:List α} (h:(l.length+m.length)*b<=140737488355328) (hb:1<=b):app b l m=some (l++m):=by refine Ds ⟨h,?_⟩;have:(l.length+m.length)*1<=(l.length+m.length)*b:=Nat.mul_le_mul_left _ hb;unfold maxLen;omega
end Go.PL
namespace Go.PL
open Go Go.Lib
set_option linter.all false
end Go.PL
namespace Go.PL
open Go
set_option linter.all false
def LB (k:Nat) (l:List (List UInt8)):Prop:=l.length<=k/\ ∀ y∈l,y.length<=600
theorem LB.nil {k:Nat}:LB k []:=⟨by simp,by simp⟩
theorem LB.le {k m:Nat} {l:List (List UInt8)} (h:LB k l) (hk:k<=m):LB m l:=⟨by have:=h.1;omega,h.2⟩
theorem LB.add {k:Nat} {l:List (List UInt8)} {x:List UInt8} (h:LB k l) (hx:x.length<=600):LB (k+1) (l++[x]):=by
 refine⟨by have:=h.1;simp;omega,fun y hy=>?_⟩;rw [List.mem_append,List.mem_singleton]at hy;rcases hy with hy | rfl
 ·exact h.2 y hy
 ·exact hx
def okX (b:Nat):Option (List UInt8)->Bool
 | some w=>Nat.ble w.length b
 | none=>false
theorem AgV {b:Nat} {o:Option (List UInt8)} (h:okX b o=true):W o (fun r=>r.length<=b):=by
 cases o with
 | none=>cases h
 | some w=>exact⟨w,rfl,Nat.le_of_ble_eq_true h⟩
theorem vn {n b:Nat} {f:Int->Option (List UInt8)} (h:((List.range n).all fun i=>okX b (f (i:Int)))=true) {i:Nat} (hi:i<n):W (f (i:Int)) (fun r=>r.length<=b):=
 AgV (List.all_eq_true.1 h i (List.mem_range.2 hi))
theorem AeQ {n b:Nat} {f:Int->Option (List UInt8)} (h:((List.range n).all fun i=>okX b (f (i:Int)))=true) {i:Int} (h0:0<=i) (hi:i<n):W (f i) (fun r=>r.length<=b):=by have:=vn h (i:=i.toNat) (by omega);rwa [Int.toNat_of_nonneg h0]at this
section
variable {α β:Type} {Q:β->Prop} {k:Nat} {l:List (List UInt8)} {x:List UInt8}
theorem wAp {J:List (List UInt8)->Option β} (h:LB k l) (hx:x.length<=600) (hJ: ∀ l',LB (k+1) l'->W (J l') Q) (hk:k<=1000:=by omega):W ((app 16 l ([x]:List (List UInt8))).bind J) Q:=by have h1:=h.1;refine W.bd (W.app (b:=16) (l:=l) (m:=[x]) (by simp;omega) (by unfold maxLen;simp;omega)) (fun e he=>?_);subst he;exact hJ _ (h.add hx)
theorem wSt {c:Bool} {J:List (List UInt8)->Option β} (h:LB k l) (hx:x.length<=600) (hJ: ∀ l',LB (k+1) l'->W (J l') Q) (hk:k<=1000:=by omega):W (if c then(app 16 l ([x]:List (List UInt8))).bind J else J l) Q:=
 W.if (fun _=>wAp h hx hJ hk) (fun _=>hJ _ (h.le (by omega)))
theorem wTs {c:Bool} {J:List (List UInt8)->Option β} (h:LB k l) (hx:x.length<=600) (hJ: ∀ l',LB (k+1) l'->W (J l') Q) (hk:k<=1000:=by omega):W (if c then J l else(app 16 l ([x]:List (List UInt8))).bind J) Q:=
 W.if (fun _=>hJ _ (h.le (by omega))) (fun _=>wAp h hx hJ hk)
theorem Wa {a b:List UInt8} {f:List UInt8->Option β} (m:Nat) (h:a.length+b.length<=m) (hf: ∀ s,s.length=a.length+b.length->W (f s) Q) (hm:m<=100000000000:=by omega):W ((cat a b).bind f) Q:=
 W.bd (W.cat (by omega)) (fun s hs=>hf s hs.2)
def Rnd (i k:Nat) (r:(Int×List (List UInt8))⊕List (List UInt8)):Prop:= ∃ l',r= .inl ((i:Int)+1,l')/\LB (k+1) l'
theorem wRn {i:Nat} {l':List (List UInt8)} (h:LB (k+1) l') (hi:i<=100000:=by omega):W (some (.inl (Ab ((i:Int)+1),l'))) (Rnd i k):=
 ⟨_,rfl,l',by rw [Ay (by omega) (by omega)],h⟩
theorem wLp {B:Int->List (List UInt8)->Option ((Int×List (List UInt8))⊕List (List UInt8))} {f:List (List UInt8)->Option β} (n:Nat) (hl:LB k l)
 (he: ∀ l,B (n:Int) l=some (.inr l)) (hs: ∀ (i m:Nat) l,i<n->m<=k+n->LB m l->W (B (i:Int) l) (Rnd i m)) (hf: ∀ l',LB (k+n) l'->W (f l') Q) (hn:n<=1000:=by omega):
 W ((iter (fun(v:Int×List (List UInt8))=>B v.1 v.2) FU (0,l)).bind f) Q:=by
 have key: ∀ (j i N:Nat) (l:List (List UInt8)),i+j=n->j<N->LB (k+i) l-> ∃ l',LB (k+n) l'/\iter (fun(v:Int×List (List UInt8))=>B v.1 v.2) N ((i:Int),l)=some l':=by
  intro j;induction j with
  | zero=>
    intro i N l hi hN hl;obtain⟨N,rfl⟩: ∃ M,N=M+1:=⟨N - 1,by omega⟩;obtain rfl:i=n:=by omega
    exact⟨l,hl,A8 (he l)⟩
  | succ j ih=>
    intro i N l hi hN hl;obtain⟨N,rfl⟩: ∃ M,N=M+1:=⟨N - 1,by omega⟩;obtain⟨r,h1,l',rfl,h2⟩:=hs i (k+i) l (by omega) (by omega) hl;obtain⟨l2,h3,h4⟩:=ih (i+1) N l' (by omega) (by omega) h2;refine⟨l2,h3,?_⟩;rw [BZ h1];exact h4
 obtain⟨l',h1,h2⟩:=key n 0 FU l (by omega) (by unfold FU;omega) hl;have h2':iter (fun(v:Int×List (List UInt8))=>B v.1 v.2) FU (0,l)=some l':=h2;rw [h2'];exact hf l' h1
theorem wMk {B:Int->Int->Option ((Int×Int)⊕Int)} {f:Int->Option β} {a:Int} {g:Int->Int} (n:Int) (hn:n<=1000)
 (hB: ∀ m k,B m k=if decide (k<n) then some (.inl (g m,Ab (k+1)))else some (.inr m)) (hf: ∀ m,W (f m) Q):W ((iter (fun(v:Int×Int)=>B v.1 v.2) FU (a,0)).bind f) Q:=by
 refine W.it (fun v=>0<=v.2/\(v.2<=n\/v.2<=0)) (fun v=>(n - v.2).toNat) ⟨by simp,by simp⟩ (by dsimp only;omega) (fun v hv=>?_);obtain⟨m,k⟩:=v;dsimp only at hv ⊢;rw [hB];refine W.if (fun h=>?_) (fun h=>W.ex (hf m))
 have h:=of_decide_eq_true h;have:=Ay (x:=k+1) (by omega) (by omega);exact W.nx (by dsimp only;omega) (by dsimp only;omega)
end
end Go.PL
namespace Go.PL
open Go
theorem vp {P:Program} {f:FuncId} {fn:Func} {s:ChangeSpec} {c:OpenClaim} (h0:(c.wf (OpenSpec.ofChange s))=true) (h1:(laidOutB P)=true) (h2:(mapsRowed P)=true) (h3:(fn.params.all (P.readableRec ·))=true) (h4:(namedTie P c.named s.vars)=true) (h5:((c.stops==[]))=true) (h6:((P.stops==[]))=true) (h7:((c.knobs==[]))=true) (h8:((P.stopKnobs==[]))=true) (h9:((c.inPlace==P.inPlace f))=true) (h10:((c.unfollowed==P.unfollowed f))=true) (h11:((c.recurses==P.recurses f))=true) (h12:((c.named==P.varsNamed f))=true) (h13:((c.maps==(fn.params.toList++s.plain.varTypes P).any (P.mapsRec ·)))=true) (h14:((c.ifaces==(fn.params.toList++s.plain.varTypes P).any (P.ifacesRec ·)))=true) (h15:((c.mapsOut==P.mapsAmong fn.resultTypes.toList))=true) (h16:((c.loops==(fn.params.toList++s.plain.varTypes P).any (P.loopsFrom ·)))=true) (h17:((c.wideKeys==(fn.params.toList++s.plain.varTypes P++fn.resultTypes.toList).any (P.wideKeysFrom ·)))=true) (h18:(s.vars.all (P.varReadable ·))=true) (h19:(fn.resultTypes.all (fun t=>P.readableRec t&&decide (t<P.types.size)))=true) (h20:((c.ifacesOut==fn.resultTypes.toList.any (P.ifacesRec ·)))=true) (h21:((c.loopsOut==fn.resultTypes.toList.any (P.loopsFrom ·)))=true) (h22:((c.plainKeys==P.plainKeys))=true) (h23:(c.shortTexts.isNone)=true) (h24:(P.stopsHeard)=true) (h25:(P.mayEnter)=true) (h26:((c.lifted==P.liftsFinal))=true) (h27:((P.make==some c.make))=true) (h28:(c.domain.isEmpty&&(c.kinds==[]))=true) (h29:((c.pinned==c.pinnedBy))=true) (h30:((c.veiled==(fn.params.toList++s.plain.varTypes P++fn.resultTypes.toList).any (P.veiledRec ·)))=true) (h31:(c.veiledFits P fn.params.toList (fn.params.toList++s.plain.varTypes P++fn.resultTypes.toList))=true):joinedFacts P f fn s c=true:=by simp_all [joinedFacts]
end Go.PL
namespace Go.PL
open Go
section
variable {H:Type} {enc:TypeId×Value->H}
theorem Abw {a:Assume} {C:Checked} {os:Os} {f:FuncId} {fn:Func} {s:ChangeSpec} {conds:List PathCond} {apart fresh handsOn again:Bool} {X:World->Array Value->Prop}
 (hX: ∀ (w w':World) (args:Array Value),w.heap=w'.heap->X w args->X w' args)
 (own:ownKnob C.prog.godebug=none) (started:os.Started) (avo:C.prog.inits.idxOf? f=none) (hfn:C.prog.funcs[f]? =some fn)
 (witness: ∃ (w:World) (tape:Tape) (i:Input),w.os=os/\(w.forCall tape i).Shaped C.prog/\i.vars=[]/\Input.okWide C.prog (w.forCall tape i) .any w.heap.size f i/\
  ((s.pre enc C.prog fn conds apart (w.forCall tape i).memory i.args/\X (w.forCall tape i).memory i.args)/\sizedMet enc C.prog fn (OpenSpec.ofChange s) apart (w.forCall tape i).memory i.args)/\a.holds C.prog (lone (Frame.enter C.prog f i.args .normal) [] (w.forCall tape i)))
 (contract: ∀ (W:World) (base:Nat) (args:Array Value) (ds gs:List (DataW H)) (before:List MemPlace),
  (∀ (j:Nat) t v,fn.params[j]? =some t->args[j]? =some v->Value.okWide C.prog W .any base t v)->
  DataW.Whole enc C.prog fn.params.toList s.vars apart W args.toList ds gs before->
  conds.all (PathCond.test C.prog ⟨fn.params.toList,ds,s.plain.varTypes C.prog,gs⟩)=true->
  (DataW.weightsEach C.prog (fn.params.toList++s.plain.varTypes C.prog) (ds++gs)).all (· <=reachBytes)=true->X W args->W.ShapedOpen C.prog->
  a.holds C.prog (lone (Frame.enter C.prog f args .normal) [] W)->
  Calls C.prog f args W fun e W'=> ∃ v,e= .returned v/\s.post enc C.prog fn apart fresh handsOn again W args v W'):
 ReturnsInHanded a C os f .any (fun w args=>(s.pre enc C.prog fn conds apart w args/\X w args)/\sizedMet enc C.prog fn (OpenSpec.ofChange s) apart w args) (s.post enc C.prog fn apart fresh handsOn again):=by
 refine returnsInHanded_of_calls own started avo witness ?_;intro w tape i _ hsh _ hok arG av7;obtain⟨_,_,_,fn',aLW,_,_,_,_,ajz⟩:=hok;have e:fn'=fn:=(by grind);subst e;obtain⟨⟨⟨ds,gs,before,hw,hc⟩,hx⟩,hz⟩:=arG;have hw':=DataW.Whole.of_heap (w':=w.forCall tape i) (by rfl) hw;refine(contract (w.forCall tape i) w.heap.size i.args ds gs before ajz hw' hc (hz.weights hw) (hX _ _ _ (by rfl) hx) hsh av7).mono fun e W' ⟨v,he,hp⟩=>?_;grind [ChangeSpec.post_blind]
def iN {H:Type} (ss:List (List UInt8)):DataW H:= .agg (ss.map fun s=> .lit (.string s))
theorem bX {H:Type} {enc:TypeId×Value->H} {P:Program} {w:World} {base:Nat} {sp:Nat->Bool} {held:Bool} {fuel:Nat} {t e:TypeId} {n:Nat} {cs:List Value} {ss:List (List UInt8)} {p:List MemPlace}
 (ht:P.underlying t=some (.array n e)) (he:P.underlying e=some .string) (hce:P.cellsOf e=1) (hct:P.cellsOf t=n)
 (h:DataW.trod enc P w base sp held fuel t cs=some (iN ss,p)):cs=ss.map fun s=>Value.string ⟨s.toArray⟩:=by
 cases fuel with
 | zero=>simp [DataW.trod]at h
 | succ fuel=>
   simp only [DataW.trod,ht,hce,hct,Nat.mul_one]at h;split at h
   ·rename_i hl;obtain⟨xs,hm,hx⟩:=Option.map_eq_some_iff.1 h;have hxs:xs.map (·.1)=ss.map fun s=>(DataW.lit (.string s):DataW H):=by simp_all [iN]
    have hxl:xs.length=n:=by simpa using Lib.mapM_length hm
    have hzl:ss.length=n:=by have:=congrArg List.length hxs;grind
    apply List.ext_getElem?;intro i;by_cases hi:i<n
    ·obtain⟨b,hb,hf⟩:=Lib.mapM_at hm i i (by simp [hi]);obtain⟨z,hc,rfl,_⟩:=DataW.trod_string he hf;have h1:cs[i]? =some (.string z):=by have:=congrArg (·[0]?) hc;grind
     have h2:(xs.map (·.1))[i]? =some (DataW.lit (.string z.data.toList):DataW H):=by simp [hb]
     simp_all
    grind
   ·cases h
theorem RP {P:Program} {W:World} {name:String} {ss:List (List UInt8)} {rest:List (String×DataW Unit)} {g:Nat} {t e:TypeId} {n:Nat}
 (hg:P.globalNamed name=some g) (hty:(P.globals[g]?).map (·.type)=some t) (ht:P.underlying t=some (.array n e)) (he:P.underlying e=some .string) (hce:P.cellsOf e=1) (hct:P.cellsOf t=n)
 (h:laidMet P ((name,iN ss)::rest) W): ∃ T fz,W.heap[g]? =some (.cells (ss.map fun s=>Value.string ⟨s.toArray⟩).toArray T fz):=by
 obtain⟨ps,⟨g',t',cs,fuel,p,q,hg',ht',avL,hd,_,_⟩,_⟩:=h;obtain rfl:=Option.some.inj (hg.symm.trans hg');obtain rfl:=Option.some.inj (hty.symm.trans ht');have hc:=bX ht he hce hct hd;simp only [World.var?,hg,Option.bind_some]at avL;split at avL
 ·rename_i c T fz hh;injection avL with hv;subst hv;refine⟨T,fz,?_⟩;rw [hh, <-hc]
 grind
end
end Go.PL
