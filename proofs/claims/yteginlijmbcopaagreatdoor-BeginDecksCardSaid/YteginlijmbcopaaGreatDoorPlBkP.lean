/- Plain laws of games that begin: such a game is valid. -/
import Derived.Test.YteginlijmbcopaaGreatDoorPlBkM
import Derived.Test.YteginlijmbcopaaGreatDoorPlBkX
namespace Go.PL
open Go
set_option linter.all false
set_option maxRecDepth 100000
set_option maxHeartbeats 1000000
theorem d6 {β:Type} {B:Int->Option (Int⊕(Unit⊕β))} (n:Nat) (hn:n<9223372036854775807) (hB: ∀ i:Nat,i<n->B (i:Int)=some (.inl ((i:Int)+1))) (hE:B (n:Int)=some (.inr (.inl ()))):iter B FU 0=some (.inl ()):=
 FS (fun i=>(i:Int)) n hn (by grind) hE rfl
theorem oY {l:List Int} {x:Int} (hl:l.length<9223372036854775807) (hn:l.Nodup) (hx:x∈l):JO l x=some 1:=by
 have h1:l.count x=1:=by grind
 have hit:iter (fun(v:Int×Int)=>G8 l x v.1 v.2) FU ((0:Int),(0:Int))=some ((l.count x:Nat):Int):=by
  refine FS (fun i=>((((l.take i).count x:Nat):Int),(i:Int))) l.length hl (fun i hi=>?_) ?_ (by simp)
  ·have hc:(l.take i).count x<=l.length:=(by grind [List.length_take]);show G8 l x _ (i:Int)=_;unfold G8 jn;rw [if_pos (by simp;omega),AD hi];simp only [Option.bind_some];rw [List.take_succ_eq_append_getElem hi,List.count_append,List.count_singleton];by_cases e:l[i]=x
   ·rw [if_pos (by simp [e]),if_pos (by simp [e])];grind [LO,Ao]
   ·rw [if_neg (by simp [e]),if_neg (by simp [e])];grind [LO,Ao]
  simp_all [G8]
 unfold JO jn;rw [hit,h1];rfl
theorem Ahn {s:Aa} {A C:List Ag} {o:Ag} {id:Int} (hO:s.b_=A++o::C) (hl:(A++o::C).length <=100000) (hA: ∀ a∈A,(a.Id==id)=false) (ho:o.Id=id):KI s id=some (o,true):=by
 have s1:iter (fun(v:Int)=>Nf s id v) FU (0:Int)=some (.inr (A.length:Int)):=by refine lR (A:=A) (C:=C) (o:=o) (p:=fun x=>x.Id==id) (by omega) hA (by simp [ho]) fun i hi=>?_;unfold Nf;rw [hO,if_pos (by simp at hi ⊢;omega),AD hi,Ao (by omega) (by omega)];grind
 unfold KI Zc Ug jn;simp_all [if_neg,AD]
section
variable {c:Az} {s:Aa}
theorem Gk.list (g:Gk c s) {p:Nat} {z:Int} {l:List Int} (hp:p<c.h_.length) (hl:l.Perm (ids s.b_ (p:Int) z)):D2 s l z (p:Int)=some true:=by
 have hol:=g.ol;have hll:l.length<=900:=by have:=g.ad4 hp z;rw [<-hl.length_eq]at this;omega
 have hnd:l.Nodup:=hl.nodup_iff.2 (g.nodup _ _);unfold D2;rw [d6 l.length (by omega) (fun i hi=>by
  obtain⟨A,C,o,hO,o1,o2,o3,o4,o5⟩:=g.split (hl.subset (List.getElem_mem hi));unfold GI;rw [if_pos (by simp;omega),AD hi];simp only [Option.bind_some];rw [Ahn hO (by rw [<-hO];omega) o5 o1];have e0:(if(if(!true)=true then true else o.B_ != z) then true else if decide (0<=(p:Int)) then o.m_ != (p:Int)else false)=false:=by grind
  simp only [e0,gd,beq_self_eq_true,if_true,Option.bind_some];grind [oY,Ao]) (by
  simp_all [GI])]
 rfl
theorem xf {s:Aa} {z p:Int}:D2 s [] z p=some true:=by unfold D2;rw [ZA (s:=(0:Int)) (r:= .inl ()) (by unfold GI;rw [if_neg (by simp)])];rfl
theorem isO {nc np:Nat} {n:Int} {o:Ag} (h:Ook nc np n o) (hn:n<=1000000):gQ o (nc:Int) (np:Int)=some true:=by
 have hc:oG ⟨0,0,0⟩=some true:=by kernel_rfl
 obtain⟨hf,hi,hk,hw,hz,hm⟩:=h;generalize o.Id=i at hf hi;generalize o.Ti=k at hf hk;generalize o.m_=w at hf hw;generalize o.B_=z at hf hz;generalize o.adH=m at hf hm;subst hf;have b1:decide (i<1)=false:=by simp;omega
 have b2:decide (k<0)=false:=by simp;omega
 have b3:decide ((nc:Int)<=k)=false:=by simp;omega
 have b4:decide (w<0)=false:=by simp;omega
 have b5:decide ((np:Int)<=w)=false:=by simp;omega
 have b6:decide (z<0)=false:=by simp;omega
 have b7:decide ((5:Int)<z)=false:=by simp;omega
 have b8:decide (m<0)=false:=by simp;omega
 have b9:decide ((1000000:Int)<m)=false:=by simp;omega
 have c1:decide ((nc:Int)<= -1)=false:=by simp;omega
 have c2:decide ((np:Int)<= -1)=false:=by simp;omega
 have c3:(z==(0:Int))=false:=by simp;omega
 unfold gQ Ux;dsimp only;rw [b1,b2,b3,b4,b5,b6,b7,b8,b9,c1,c2,c3];simp_all [gd,Y5,Uh]
theorem Abl {l:List Int} (h:l.length<=1000):II l=some l:=by grind [II,nY]
theorem Gk.aqk (g:Gk c s) {o:Ag} (ho:o∈s.b_):HR s o=some true:=by
 have hk:=g.ob o ho;obtain⟨p,hp⟩: ∃ p:Nat,o.m_=(p:Int):=⟨o.m_.toNat,by have:=hk.w;omega⟩;have hpl:p<s.bk.length:=by have:=hk.w;rw [g.len];omega
 obtain⟨l,h,e,h1,h2⟩:=g.pl p hpl;have hol:=g.ol;have hi: ∀ z,(ids s.b_ p z).length <=250:=g.ad4 (by rw [<-g.len];exact hpl);have i1:=hi 1;have i2:=hi 2;have e1:=h1.length_eq;have e2:=h2.length_eq;have h0:(if decide (o.m_<0) then true else decide ((s.bk.length:Int)<=o.m_))=false:=by grind
 unfold HR;have hin: ∀ z,o.B_=z->o.Id∈ids s.b_ (p:Int) z:=fun z hz=>List.mem_map.2 ⟨o,List.mem_filter.2 ⟨ho,by simp [hp,hz]⟩,rfl⟩;rcases hk.z with hz | hz
 ·rw [hz,if_neg (by decide)];have hL:KH s 1 o.m_=some h:=by grind [KH,AD,Abl]
  rw [hL];simp only [Option.bind_some];rw [oY (by omega) (h2.nodup_iff.2 (g.nodup _ _)) (by grind)];rfl
 ·rw [hz,if_neg (by decide)];have hL:KH s 2 o.m_=some l:=by grind [KH,AD,Abl]
  rw [hL];simp only [Option.bind_some];rw [oY (by omega) (h1.nodup_iff.2 (g.nodup _ _)) (by grind)];rfl
theorem Gk.objects (g:Gk c s) (hn:s.g_<=1000000):Lv c.C_ s=some true:=by
 have hol:=g.ol;have hm:=g.m;unfold Lv jn;rw [if_neg (by simp;omega),d6 s.b_.length (by omega) (fun i hi=>by
  have hk:=g.ob _ (List.getElem_mem hi);have h1:decide (s.g_<=s.b_[i].Id)=false:=by have:=hk.i;simp;omega
  have h2:decide (s.l_<=s.b_[i].adH)=false:=by have:=hk.m;simp;omega
  unfold KK;rw [if_pos (by simp;omega),AD hi];simp only [Option.bind_some];rw [g.len,isO hk hn];simp only [Option.bind_some,h1,h2];rw [g.aqk (List.getElem_mem hi),Ao (x:=(i:Int)+1) (by omega) (by omega)];cases i with
  | zero=>simp [gd]
  | succ j=>
    have hj:j<s.b_.length:=by omega
    have aFv:s.b_[j].Id <s.b_[j+1].Id :=List.pairwise_iff_getElem.1 g.asc j (j+1) hj hi (by omega);grind [Ao,AD,gd]) (by
  simp_all [KK])]
 rfl
theorem xv {a b d:Int} (h:b<=a/\a<=d):G7 a b d=some true:=by unfold G7;simp [h]
theorem Gk.aoj (g:Gk c s) (h2:2<=c.h_.length):Lx s=some true:=by
 have h4:=g.d4;have hlen:=g.len;have hw:Uf ⟨0,0,0,0,0,0⟩=some true:=by kernel_rfl
 unfold Lx jn;rw [xv (by omega)];simp only [Option.bind_some];rw [if_neg (by simp),d6 s.bk.length (by omega) (fun i hi=>by
  obtain⟨l,h,e,h1,h2⟩:=g.pl i hi;unfold I7;rw [if_pos (by simp;omega),AD hi,e];simp only [Option.bind_some];rw [xv (by decide),xv (by decide),hw,g.list (by grind) h1,g.list (by grind) h2,xf,Ao (by omega) (by omega)];simp [gd]) (by
  simp_all [I7])]
 show KL s=_;unfold KL;rw [g.e4,g.e5,xf,xf];rfl
theorem Gk.is (g:Gk c s) (hn:s.g_<=1000000) (h2:2<=c.h_.length) (hf:0<=c.Td/\c.Td<c.h_.length):gX c.C_ s=some true:=by
 have h4:=g.d4;have hlen:=g.len;have hn1:=g.n;have hm:=g.m;have a6:=g.a6;have hol:=g.ol;have hp: ∀ x:Int,0<=x/\x<c.h_.length->Gd s x=some true:=(by grind [Gd,Ao,xv]);have hs:Pu s=some true:=by unfold Pu jn;rw [g.e1,g.e2,g.e3];show (iter (fun(v:Int)=>LP s v) FU (0:Int)).bind _=_;rw [ZA (s:=(0:Int)) (r:=()) (by unfold LP;rw [if_neg (by rw [g.e1];simp)])];show Nn s=_;unfold Nn jn;rw [ZA (s:=(0:Int)) (r:=()) (by unfold PX;rw [if_neg (by rw [g.e2];simp)])];show Nm s=_;unfold Nm jn;rw [ZA (s:=(0:Int)) (r:=()) (by unfold Sv;rw [if_neg (by rw [g.e3];simp)])];rfl
 have hx:iter (fun(v:Int)=>QV s v) FU (0:Int)=some (.inl ()):=ZA (by unfold QV;rw [if_neg (by rw [g.e6];simp)]);unfold gX jn;rw [xv (a:=s.g_) (by omega),xv (a:=s.l_) (by omega),xv (a:=s.aaf) (by omega),g.a7,xv (a:=(0:Int)) (d:=10) (by decide),g.aoj h2,g.a1,g.a2,hp _ hf,g.a3,xv (a:=(0:Int)) (d:=(s.bk.length:Int)) (by omega),g.a4,xv (a:=(0:Int)) (d:=2) (by decide),hx,g.e6];have o1:decide ((2048:Int)<(s.b_.length:Int))=false:=by simp;omega
 have o2:decide ((500:Int)<(([]:List Int).length :Int))=false:=rfl;simp only [gd,o1,o2,Option.bind_some,Bool.not_true,Bool.false_eq_true,if_false,beq_self_eq_true,if_true,Sum.elim_inl];show QU c.C_ s=_;unfold QU;rw [g.a4,g.a5,g.objects hn,hs];rfl
end
end Go.PL
