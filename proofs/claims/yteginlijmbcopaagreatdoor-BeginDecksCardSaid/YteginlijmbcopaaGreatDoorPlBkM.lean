/- Plain laws of games that begin: what holds of a game while first hands are dealt. -/
import Derived.Test.YteginlijmbcopaaGreatDoorPlBkL
namespace Go.PL
open Go
set_option linter.all false
set_option maxRecDepth 100000
set_option maxHeartbeats 1000000
def ids (os:List Ag) (q z:Int):List Int:=(os.filter fun o=>o.m_==q&&o.B_==z).map (·.Id)
theorem DU (A B:List Ag) (q z:Int):ids (A++B) q z=ids A q z++ids B q z:=by simp [ids]
theorem E7 (o:Ag) (C:List Ag) (q z:Int):ids (o::C) q z=(if o.m_==q&&o.B_==z then [o.Id]else [])++ids C q z:=by grind [ids]
theorem SE (q z:Int):ids [] q z=[]:=rfl
theorem qF (os:List Ag) (q z:Int):(ids os q z).Sublist (os.map (·.Id)):=List.Sublist.map _ List.filter_sublist
def Gf (os:List Ag) (q:Int):List Int:=(os.filter fun o=>o.m_==q).map (·.Ti)
theorem OZ (A B:List Ag) (q:Int):Gf (A++B) q=Gf A q++Gf B q:=by simp [Gf]
theorem Pw (o:Ag) (C:List Ag) (q:Int):Gf (o::C) q=(if o.m_==q then [o.Ti]else [])++Gf C q:=by grind [Gf]
def Pok (os:List Ag) (p:Int) (P:Ar):Prop:= ∃ l h,P=⟨20,0,0,⟨0,0,0,0,0,0⟩,false,false,l,h,[]⟩/\l.Perm (ids os p 2)/\h.Perm (ids os p 1)
structure Ook (nc np:Nat) (n:Int) (o:Ag):Prop where
 f:o=Ux o.Id o.Ti o.m_ o.B_ o.adH
 i:1<=o.Id/\o.Id<n
 k:0<=o.Ti/\o.Ti<nc
 w:0<=o.m_/\o.m_<np
 z:o.B_=1\/o.B_=2
 m:1<=o.adH/\o.adH<n
structure Gk (c:Az) (s:Aa):Prop where
 n:1<=s.g_
 m:s.l_=s.g_
 e1:s.Stack=[]
 e2:s.aar=[]
 e3:s.ack=[]
 e4:s.AT=[]
 e5:s.acv=[]
 e6:s.Extra=[]
 a1:s.aaj=c.Td
 a2:s.Priority=c.Td
 a3:s.Passes=0
 a4:s.ac9=0
 a5:s.aaK= -1
 a6:0<=s.aaf/\s.aaf<=1
 a7:s.Step=0
 len:s.bk.length=c.h_.length
 pl: ∀ (p:Nat) (h:p<s.bk.length),Pok s.b_ (p:Int) s.bk[p]
 ob: ∀ o∈s.b_,Ook c.C_.length c.h_.length s.g_ o
 asc:s.b_.Pairwise fun a b=>a.Id<b.Id
 cnt: ∀ (p:Nat) (h:p<c.h_.length),(Gf s.b_ (p:Int)).Perm c.h_[p]
 d4:c.h_.length<=4
 d5: ∀ d∈c.h_,d.length<=250
 ol:s.b_.length<=1000
section
variable {c:Az} {s:Aa} {A C:List Ag} {o:Ag}
theorem Gk.ad4 (g:Gk c s) {p:Nat} (hp:p<c.h_.length) (z:Int):(ids s.b_ (p:Int) z).length <=250:=by
 have h1:(ids s.b_ (p:Int) z).length <=(Gf s.b_ (p:Int)).length :=by unfold ids Gf;rw [List.length_map,List.length_map, <-List.countP_eq_length_filter, <-List.countP_eq_length_filter];simp_all [List.countP_mono_left]
 have h2:=(g.cnt p hp).length_eq;have h3:=g.d5 _ (List.getElem_mem hp);omega
theorem Gk.nodup (g:Gk c s) (q z:Int):(ids s.b_ q z).Nodup :=by refine List.Sublist.nodup (qF _ _ _) ?_;exact List.pairwise_map.2 (g.asc.imp fun h=>by omega)
theorem Gk.split (g:Gk c s) {p z id:Int} (h:id∈ids s.b_ p z): ∃ A C o,s.b_=A++o::C/\o.Id=id/\o.m_=p/\o.B_=z/\o.Token=false/\ ∀ a∈A,(a.Id==id)=false:=by obtain⟨o,h1,h2⟩:=List.mem_map.1 h;obtain⟨h3,h4⟩:=List.mem_filter.1 h1;simp only [Bool.and_eq_true,beq_iff_eq]at h4;obtain⟨A,C,hO⟩:=List.append_of_mem h3;refine⟨A,C,o,hO,h2,h4.1,h4.2,by rw [(g.ob o h3).f];rfl,fun a ha=>?_⟩;have:=g.asc;grind
theorem Gk.okP (g:Gk c s): ∀ P∈s.bk,okP P:=by intro P hP;obtain⟨p,hp,rfl⟩:=List.getElem_of_mem hP;obtain⟨l,h,e,h1,h2⟩:=g.pl p hp;rw [e];have hi: ∀ z,(ids s.b_ p z).length <=s.b_.length:=(by grind [qF]);have:=hi 1;have:=hi 2;have:=h1.length_eq;have:=h2.length_eq;have:=g.ol;exact⟨by show l.length<=_;omega,by show h.length<=_;omega,by show 0<=_;omega⟩
theorem Gk.copy (g:Gk c s):Eb s=some s:=by have:=g.d4;have:=g.len;have:=g.ol;exact Afy (by omega) g.okP (by omega) (by rw [g.e4];simp) (by rw [g.e5];simp) g.e1 g.e2 g.e3 (by rw [g.e6];simp)
theorem Gk.apa (g:Gk c s) (hO:s.b_=A++o::C) {p:Nat} {z:Int} (hp:p<s.bk.length) (hw:o.m_=(p:Int)) (hz:z=1\/z=2) {P:Ar} (hP:Pok (A++C++[Ux s.g_ o.Ti p z s.l_]) p P):
 Gk c (mvS s (s.bk.set p P) (A++C++[Ux s.g_ o.Ti p z s.l_])):=by
 have hlen:=g.len;have hAC: ∀ x∈A++C,x∈s.b_:=(by grind);have hm:=g.m;have hn:=g.n;have hoo:=g.ob o (by grind);refine⟨by show 1<=s.g_+1;omega,by show s.l_+1=s.g_+1;omega,g.e1,g.e2,g.e3,g.e4,g.e5,g.e6,g.a1,g.a2,g.a3,g.a4,g.a5,g.a6,g.a7,by show (s.bk.set p P).length =_;grind,fun q hq=>?_,fun x hx=>?_,?_,fun q hq=>?_,g.d4,g.d5,?_⟩
 ·have hq':q<s.bk.length:=by simpa [mvS] using hq
  show Pok (A++C++[Ux s.g_ o.Ti p z s.l_]) (q:Int) ((s.bk.set p P)[q]'(by grind));by_cases e:p=q
  ·grind
  ·rw [List.getElem_set_ne e];obtain⟨l,h,e1,h1,h2⟩:=g.pl q hq';have Tg: ¬((p:Int)=(q:Int)):=by omega
   have key: ∀ z',ids (A++C++[Ux s.g_ o.Ti p z s.l_]) (q:Int) z'=ids s.b_ (q:Int) z':=(by simp_all [DU,E7,SE,Ux]);refine⟨l,h,e1,?_,?_⟩
   all_goals grind
 ·rcases List.mem_append.1 hx with hx | hx
  ·have:=g.ob x (hAC x hx);exact⟨this.f,⟨this.i.1,by have:=this.i;show x.Id<s.g_+1;omega⟩,this.k,this.w,this.z,⟨this.m.1,by have:=this.m;show x.adH<s.g_+1;omega⟩⟩
  ·rw [List.mem_singleton.1 hx];exact⟨rfl,⟨hn,by show s.g_<s.g_+1;omega⟩,hoo.k,⟨by show 0<=(p:Int);omega,by show (p:Int)<_;omega⟩,hz,⟨by show 1<=s.l_;omega,by show s.l_<s.g_+1;omega⟩⟩
 ·have ha:=g.asc;rw [hO]at ha;have h1:(A++C).Pairwise fun a b=>a.Id<b.Id:=(by grind);refine List.pairwise_append.2 ⟨h1,by simp,fun a ha b hb=>?_⟩;rw [List.mem_singleton.1 hb];exact(g.ob a (hAC a ha)).i.2
 ·refine List.Perm.trans ?_ (g.cnt q hq);show (Gf (A++C++[_]) _).Perm _;rw [hO,OZ,OZ,OZ,Pw,Pw];simp_all [Ux,Gf,List.Perm.append_left,List.perm_append_comm]
 ·have:=g.ol;rw [hO]at this;show (A++C++[_]).length <=_;grind
theorem Gk.draw (g:Gk c s) {p:Nat} (hp:p<s.bk.length) (hN:s.g_<=1000000) {id ctl:Int} {ws:List Int} (hL:s.bk[p].q_ =id::ws):
 ∃ s',Fn s id 1 ctl false=some (s',s.g_)/\Gk c s'/\s'.g_=s.g_+1/\ ∃ hp':p<s'.bk.length,s'.bk[p].q_ =ws:=by
 obtain⟨l,h,e,h1,h2⟩:=g.pl p hp;have hl:l=id::ws:=by grind
 subst hl;obtain⟨A,C,o,hO,o1,o2,o3,o4,o5⟩:=g.split (h1.subset (by simp:id∈id::ws));have hol:=g.ol;have hnd:(id::ws).Nodup :=h1.nodup_iff.2 (g.nodup _ _);have hll:(id::ws).length <=900:=by have:=g.ad4 (by rw [<-g.len];exact hp) 2;rw [<-h1.length_eq]at this;omega
 have hhl:h.length<=900:=by have:=g.ad4 (by rw [<-g.len];exact hp) 1;rw [<-h2.length_eq]at this;omega
 have hwo:Cw s.bk[p].q_ id=some ws:=by rw [hL];exact qD (A:=[]) (C:=ws) (by simpa using hll) (by simpa using hnd)
 have hmv:=AdU (ctl:=ctl) g.copy hO (by grind) o5 o1 hp o2 o3 o4 (by rw [g.e1];decide) (by rw [g.e1];simp) hwo (by grind) (fun x hx=>(g.ob x (by grind)).i.2) (by have:=g.len;have:=g.d4;omega) (by have:=g.n;have:=g.m;omega);refine⟨_,hmv,g.apa hO hp o2 (.inl rfl) ?_,rfl,by simpa [mvS] using hp,by simp [mvS]⟩;refine⟨ws,h++[s.g_],by rw [e],?_,?_⟩
 ·rw [hO,DU,E7,if_pos (by simp [o2,o3]),o1]at h1;rw [DU,DU,E7,if_neg (by simp [Ux])];have:=h1.trans (List.perm_middle (a:=id) (l₁:=ids A p 2) (l₂:=ids C p 2));grind [SE]
 ·rw [hO,DU,E7,if_neg (by simp [o3])]at h2;rw [DU,DU,E7,if_pos (by simp [Ux])];grind [Ux,SE]
theorem Gk.back (g:Gk c s) {p:Nat} (hp:p<s.bk.length) (hN:s.g_<=1000000) {id ctl:Int} {ws:List Int} (hL:s.bk[p].Hand =id::ws):
 ∃ s',Fn s id 2 ctl false=some (s',s.g_)/\Gk c s'/\s'.g_=s.g_+1/\ ∃ hp':p<s'.bk.length,s'.bk[p].Hand =ws:=by
 obtain⟨l,h,e,h1,h2⟩:=g.pl p hp;have hl:h=id::ws:=by grind
 subst hl;obtain⟨A,C,o,hO,o1,o2,o3,o4,o5⟩:=g.split (h2.subset (by simp:id∈id::ws));have hol:=g.ol;have hnd:(id::ws).Nodup :=h2.nodup_iff.2 (g.nodup _ _);have hhl:(id::ws).length <=900:=by have:=g.ad4 (by rw [<-g.len];exact hp) 1;rw [<-h2.length_eq]at this;omega
 have hll:l.length<=900:=by have:=g.ad4 (by rw [<-g.len];exact hp) 2;rw [<-h1.length_eq]at this;omega
 have hwo:Cw s.bk[p].Hand id=some ws:=by rw [hL];exact qD (A:=[]) (C:=ws) (by simpa using hhl) (by simpa using hnd)
 have hmv:=Afz (ctl:=ctl) g.copy hO (by grind) o5 o1 hp o2 o3 o4 (by rw [g.e1];decide) (by rw [g.e1];simp) hwo (by grind) (fun x hx=>(g.ob x (by grind)).i.2) (by have:=g.len;have:=g.d4;omega) (by have:=g.n;have:=g.m;omega);refine⟨_,hmv,g.apa hO hp o2 (.inr rfl) ?_,rfl,by simpa [mvS] using hp,by simp [mvS]⟩;refine⟨s.g_::l,ws,by rw [e],?_,?_⟩
 ·rw [hO,DU,E7,if_neg (by simp [o3])]at h1;rw [DU,DU,E7,if_pos (by simp [Ux])];refine(List.perm_append_comm (l₁:=[s.g_]) (l₂:=l)).trans ?_;grind [Ux,SE]
 ·rw [hO,DU,E7,if_pos (by simp [o2,o3]),o1]at h2;rw [DU,DU,E7,if_neg (by simp [Ux])];have:=h2.trans (List.perm_middle (a:=id) (l₁:=ids A p 1) (l₂:=ids C p 1));grind [SE]
end
end Go.PL
