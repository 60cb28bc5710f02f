/- The plain law of BeginDecks. -/
import Derived.Test.YteginlijmbcopaaGreatDoorPlBkO
import Derived.Test.YteginlijmbcopaaGreatDoorPlBkP
import Derived.Test.YteginlijmbcopaaGreatDoorPlBkQ
import Derived.Test.YteginlijmbcopaaGreatDoorPlCfw
open List (getElem_mem)
namespace Go.PL
open Go
set_option linter.all false
set_option maxRecDepth 100000
set_option maxHeartbeats 1000000
def d7 (n:Nat) (f:Int->Int):List Int:=(List.range n).map fun(j:Nat)=>f (j:Int)
theorem qH (n:Nat) (f:Int->Int):(d7 n f).length =n:=by simp [d7]
theorem ik {n:Nat} {f:Int->Int} {k:Int} (h:0<=k/\k<n):idx (d7 n f) k=some (f k):=by obtain⟨j,rfl⟩: ∃ j:Nat,k=(j:Int):=⟨k.toNat,by omega⟩;grind [AD,d7]
theorem qI {n:Nat} {f g:Int->Int} {k v:Int} (h:0<=k/\k<n) (hv:g k=v) (hg: ∀ j,j ≠ k->g j=f j):(d7 n f).set k.toNat v=d7 n g:=by refine List.ext_getElem (by simp [d7]) fun i h1 h2=>?_;grind [d7]
theorem tl {n:Nat} {f g:Int->Int} (h: ∀ j,f j=g j):d7 n f=d7 n g:=by rw [funext h]
section
variable {c:Az} {s:Aa}
theorem Aax (g:Gk c s) (p:Nat) (hcl:c.C_.length<=1000000):Ju s (p:Int) (c.C_.length:Int)=some (d7 c.C_.length fun j=>(((Gf s.b_ (p:Int)).count j:Nat):Int)):=by
 have hol:=g.ol;have hit:iter (fun(v:Int×List Int)=>DA s (p:Int) (c.C_.length:Int) v.1 v.2) FU ((0:Int),d7 c.C_.length fun _=>0)=some (d7 c.C_.length fun j=>(((Gf s.b_ (p:Int)).count j:Nat):Int)):=by
  refine FS (fun i=>((i:Int),d7 c.C_.length fun j=>(((Gf (s.b_.take i) (p:Int)).count j:Nat):Int))) s.b_.length (by omega) (fun i hi=>?_) ?_ ?_
  ·have hk:=(g.ob _ (getElem_mem hi)).k;have hle: ∀ j,(Gf (s.b_.take i) (p:Int)).count j<=1000:=(by grind [Gf,List.length_map]);show DA s (p:Int) _ (i:Int) _=_;unfold DA jn;rw [if_pos (by simp;omega),AD hi];simp only [Option.bind_some];rw [List.take_succ_eq_append_getElem hi,OZ,Pw];by_cases e:s.b_[i].m_ =(p:Int)
   ·have hb:(if(if(s.b_[i].m_ ==(p:Int))=true then decide (0<=s.b_[i].Ti)else false) then decide (s.b_[i].Ti <(c.C_.length:Int))else false)=true:=by grind
    rw [if_pos hb,ik hk];simp only [Option.bind_some];rw [if_pos (by simp [e]),Ao (by have:=hle s.b_[i].Ti;omega) (by have:=hle s.b_[i].Ti;omega)];unfold HM;rw [Ao (by omega) (by omega),qI (g:=fun j=>(((Gf (s.b_.take i) (p:Int)++[s.b_[i].Ti]).count j:Nat):Int)) hk (by grind) (by grind)];simp [Gf]
   ·have hb:(if(if(s.b_[i].m_ ==(p:Int))=true then decide (0<=s.b_[i].Ti)else false) then decide (s.b_[i].Ti <(c.C_.length:Int))else false)=false:=by simp [e]
    rw [if_neg (by rw [hb];simp),if_neg (by simp [e])];grind [HM,Ao,Gf]
  all_goals simp_all [DA,Gf]
 unfold Ju jn;refine(nb (by unfold maxLen;omega)).trans ?_;simp only [Option.bind_some];rw [show List.replicate ((c.C_.length:Int)).toNat (0:Int)=d7 c.C_.length fun _=>0 by
  rw [Int.toNat_natCast];refine List.ext_getElem (by simp [d7]) fun i h1 h2=>by simp [d7]]
 rw [hit];rfl
theorem Aho {n:Nat} {f:Int->Int} {d:List Int} (hd:d.length<=250) (hb: ∀ k∈d,0<=k/\k<n) (hf: ∀ j,0<=f j/\f j<=100000):iter (fun(v:Int×List Int)=>CD d v.1 v.2) FU ((0:Int),d7 n f)=some (d7 n fun j=>f j - ((d.count j:Nat):Int)):=by
 refine FS (fun i=>((i:Int),d7 n fun j=>f j - (((d.take i).count j:Nat):Int))) d.length (by omega) (fun i hi=>?_) ?_ (by simp)
 ·have hk:=hb _ (getElem_mem hi);have hle:(d.take i).count d[i]<=250:=(by grind [List.length_take]);have hfj:=hf d[i];show CD d (i:Int) _=_;unfold CD;rw [if_pos (by simp;omega),AD hi];simp only [Option.bind_some];rw [ik hk];simp only [Option.bind_some];rw [Ao (x:=(i:Int)+1) (by omega) (by omega),Ao (by omega) (by omega),List.take_succ_eq_append_getElem hi,qI (g:=fun j=>f j - (((d.take i++[d[i]]).count j:Nat):Int)) hk (by grind) (by grind)];rfl
 simp_all [CD]
theorem Abn: ∀ (os:List Ag) (q:Int),(∀ o∈os,o.B_=1\/o.B_=2)->(ids os q 2).length +(ids os q 1).length =(Gf os q).length
 | [],_,_=>rfl
 | o::os,q,h=>by have ih:=Abn os q fun x hx=>h x (by simp [hx]);rw [E7,E7,Pw,List.length_append,List.length_append,List.length_append];rcases h o (by simp)with e | e<;>by_cases hq:o.m_=q<;>simp [e,hq]<;>omega
theorem AfF (g:Gk c s) {p:Nat} (hp:p<c.h_.length) (hcl:c.C_.length<=1000000) (hb: ∀ d∈c.h_, ∀ n∈d,Wh c n=false):Dk c s (p:Int)=some (.inl ((p:Int)+1)):=by
 have hp':p<s.bk.length:=by rw [g.len];exact hp
 have hd:=g.d5 _ (getElem_mem hp);have hol:=g.ol;have aeH:=g.cnt p hp;have h4:=g.d4;have hle: ∀ j,(Gf s.b_ (p:Int)).count j<=250:=(by grind);unfold Dk jn;rw [if_pos (by simp;omega),AD hp];simp only [Option.bind_some];rw [Aax g p hcl];simp only [Option.bind_some];rw [Aho hd (by grind [Wh]) (by grind)];simp only [Option.bind_some];rw [tl (g:=fun _=>0) (fun j=>by rw [aeH.count_eq];omega)];unfold IV jn;rw [d6 c.C_.length (by omega) (fun i hi=>by
  unfold E4;rw [if_pos (by rw [qH];simp;omega),ik (by omega),Ao (by omega) (by omega)];rfl) (by
  simp_all [E4,qH])]
 simp only [Option.bind_some,Sum.elim_inl];unfold IU;rw [AD hp'];simp only [Option.bind_some];obtain⟨l,h,e,h1,h2⟩:=g.pl p hp';have hlen:l.length+h.length=c.h_[p].length :=by rw [h1.length_eq,h2.length_eq,Abn _ _ (fun o ho=>(g.ob o ho).z),aeH.length_eq]
 rw [e];show (if((Ac ((l.length:Int)+(h.length:Int))) != (c.h_[p].length :Int)) then _ else _)=_;rw [Ao (by omega) (by omega),if_neg (by simp;omega)];grind [IT,Ao]
theorem Aay (ha:E3=some true) {l:List Aa} (hl:l.length<=10) (hg: ∀ x∈l,Gk c x/\x.g_<=1000000) (h2:2<=c.h_.length) (hf:0<=c.Td/\c.Td<c.h_.length) (hcl:c.C_.length<=1000000) (hb: ∀ d∈c.h_, ∀ n∈d,Wh c n=false):Dl c l=some true:=by
 unfold Dl jn;rw [d6 l.length (by omega) (fun i hi=>by
  obtain⟨g,hn⟩:=hg _ (getElem_mem hi);have h4:=g.d4;unfold E5 jn;rw [if_pos (by simp;omega),AD hi];simp only [Option.bind_some];rw [g.is hn h2 hf];simp only [Option.bind_some];rw [if_neg (by simp [g.len]),d6 c.h_.length (by omega) (fun p hp=>AfF g hp hcl hb) (by
   simp_all [Dk])]
  grind [IS,Ao]) (by
  simp_all [E5])]
 grind [IR]
end
theorem Aaz {an:List (List Int)} (hl:an.length*24<=140737488355328) (hs: ∀ a∈an,a.length*8<=140737488355328):iter (fun(v:Int×Int×Int×Int×Int×Int×Int×Int×Bool×Bool×(List (List (Int))))=>Cm an v.1 v.2.1 v.2.2.1 v.2.2.2.1 v.2.2.2.2.1 v.2.2.2.2.2.1 v.2.2.2.2.2.2.1 v.2.2.2.2.2.2.2.1 v.2.2.2.2.2.2.2.2.1 v.2.2.2.2.2.2.2.2.2.1 v.2.2.2.2.2.2.2.2.2.2) FU ((0:Int),(0:Int),(0:Int),(0:Int),(0:Int),(0:Int),(0:Int),(0:Int),false,false,([]:List (List (Int))))=some (0,0,0,0,0,0,0,false,false,an):=by
 refine FS (fun i=>((i:Int),0,0,0,0,0,0,0,false,false,an.take i)) an.length (by omega) (fun i hi=>?_) ?_ rfl
 ·have ha:=hs _ (getElem_mem hi);show Cm an (i:Int) 0 0 0 0 0 0 0 false false (an.take i)=_;unfold Cm;rw [if_pos (by simpa using hi),AD hi];simp only [Option.bind_some];rw [show Cg an[i]=some an[i]from if_pos ⟨ha,by unfold maxLen;omega⟩];grind [nY,Ao,List.take_succ_eq_append_getElem]
 simp_all [Cm]
theorem Ahp {c:Az} (hc:w8 c):(bj c=0/\Ec c=some (lQ c,0))\/ ∃ e:Int,e ≠ 0/\Ec c=some (⟨[],[],[],[],[],[],[],0,0,0,false,0,0,0,0,0,[],0,0⟩,e):=by
 by_cases h:bj c=0
 ·grind [Afw]
 simp_all [Ec,w9]
theorem ZC (ha:E3=some true) {c:Az} {an:List (List Int)} (hd:c.h_.length<9223372036854775807) (hc:w8 c) (hl:an.length*24<=140737488355328) (hs: ∀ a∈an,a.length*8<=140737488355328):Fq c an=some true:=by
 obtain⟨b,hb, -⟩:=AfE c hd;unfold Fq;rw [hb];simp only [Option.bind_some];cases b with
 | false=>simp [ha]
 | true=>
   simp only [Bool.not_true,Bool.false_eq_true,if_false];rcases Ahp hc with ⟨h0,hn⟩ | ⟨e,h0,hn⟩
   ·obtain⟨g,gn,h2,hf⟩:=AfD h0;obtain⟨h1, -, -,h7⟩:=oX h0;have hcl:c.C_.length<=1000000:=by grind [Ns]
    obtain⟨t,e1,ok⟩:=AfC (an:=an) g (by omega) h2 hf (by omega) hs;have hk:=ok.g;have hkn:=ok.n;rw [hn];simp only [Option.bind_some];rw [if_neg (by simp)];unfold jn;rw [Aaz hl hs];show Dm c (lQ c,0) 0 0 0 0 0 0 0 false false an=_;rw [e1];have fin: ∀ l:List Aa,l=[lQ c,t.1]\/l=[lQ c]->Dl c l=some true:=fun l hl=>by refine Aay ha (by grind) (fun x hx=>?_) h2 hf hcl h7;grind
    unfold E6 jn;simp only [Option.bind_some];cases hw:t.2.2.2.1 with
    | false=>grind
    | true=>
      have ho:=ok.o;have hco:Bg t.2.2.1.Options=some t.2.2.1.Options:=if_pos (by grind [maxLen]);simp only [Bool.not_true,Bool.false_eq_true,if_false];rw [hco];exact fin _ (.inr rfl)
   grind
end Go.PL
