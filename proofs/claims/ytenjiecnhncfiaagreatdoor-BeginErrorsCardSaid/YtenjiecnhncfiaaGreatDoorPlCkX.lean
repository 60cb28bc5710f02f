/- Plain laws of catalogues: the check. -/
import Derived.Test.YtenjiecnhncfiaaGreatDoorPlCkW
namespace Go.PL
open Go
set_option maxRecDepth 100000
set_option linter.all false
set_option maxHeartbeats 4000000
theorem oe {α β γ:Type} [Inhabited α] {l:List α} {p:α->Bool} {c:β} {B:Int->Option (Int⊕(Unit⊕β))} {K:Option γ} {f:β->Option γ} (hn:l.length<9223372036854775807)
 (hB: ∀ (i:Nat) (h:i<l.length),B (i:Int)=some (if p l[i]=true then .inr (.inr c)else .inl ((i:Int)+1))) (hE:B (l.length:Int)=some (.inr (.inl ()))):
 (iter B FU 0).bind (Sum.elim (fun _=>K) f)=if l.any p=true then f c else K:=by
 rw [yP (q:=fun x=> !p x) hn (fun i h=>by rw [hB i h];cases p l[i]<;>rfl) hE];rw [show (l.all fun x=> !p x)= !l.any p by rw [List.not_any_eq_all_not]];cases l.any p<;>rfl
def cU (l:List AO) (s:List UInt8):Int:=match (List.range l.length).find? (fun i=>(l.getD i default).Name ==s)with
 | some i=>(i:Int)
 | none=> -1
theorem Ae2 {l:List AO} (hl:l.length<=1000) (s:List UInt8):Jf l s=some (cU l s):=by
 simp only [Jf,N0,N1,jn];rw [Xq (p:=fun i=>(l.getD i default).Name ==s) (f:=fun i=>(i:Int)) (B:=fun v=>C4 l s v) l.length (by omega) (fun i hi=>by
  show C4 l s (i:Int)=_;unfold C4;rw [if_pos (by simp only [bz];omega),Ol hi,aal (by omega)];simp only [Option.bind_some];cases (l.getD i default).Name ==s<;>rfl) (by
  show C4 l s _=_;unfold C4;rw [if_neg (by simp only [bz];omega)])]
 unfold cU;cases (List.range l.length).find? (fun i=>(l.getD i default).Name ==s)<;>rfl
theorem AbP {l:List AO} (hl:l.length<=1000) (s:List UInt8):TR l s=some (cU l s):=by
 simp only [TR,Xf,jn];rw [Xq (p:=fun i=>(l.getD i default).Name ==s) (f:=fun i=>(i:Int)) (B:=fun v=>Gk l s v) l.length (by omega) (fun i hi=>by
  show Gk l s (i:Int)=_;unfold Gk;rw [if_pos (by simp only [bz];omega),Ol hi,aal (by omega)];simp only [Option.bind_some];cases (l.getD i default).Name ==s<;>rfl) (by
  show Gk l s _=_;unfold Gk;rw [if_neg (by simp only [bz];omega)])]
 unfold cU;cases (List.range l.length).find? (fun i=>(l.getD i default).Name ==s)<;>rfl
def rr (l:List AO) (s:List UInt8):Bool:=l.any fun t=>t.Name==s&&t.Token
theorem AgH {l:List AO} (hl:l.length<=1000) (s:List UInt8):Qd l s=some (rr l s):=by
 simp only [Qd,TS,jn];rw [oe (l:=l) (p:=fun t=>t.Name==s&&t.Token) (c:=true) (B:=fun v=>ER l s v) (by omega) (fun i hi=>by
  show ER l s (i:Int)=_;unfold ER;rw [if_pos (by simp only [bz];omega),BY hi,aal (by omega)];simp only [Option.bind_some,QC];cases l[i].Name ==s<;>cases h:l[i].Token <;>simp [h]) (by
  show ER l s _=_;unfold ER;rw [if_neg (by simp only [bz];omega)])]
 unfold rr;cases l.any fun t=>t.Name==s&&t.Token<;>rfl
def X5 (l:List AO) (e:Av):Bool:=e.Op==12&& !rr l e.ab1
def RX (l:List AO) (c:AO):Bool:=c.g_.any fun a=>a.f_.any (X5 l)
def AbQ (c:AO):Prop:=c.g_.length<9223372036854775807/\AgB c
theorem AbR {l:List AO} (hl:l.length<=1000) {c:AO} (hc:AbQ c):HU l c=some (RX l c):=by
 simp only [HU,Mn,jn];have h3: ∀ (k:Int) (e:Av),0<=k->k<9223372036854775807->((iter (fun(v:Int)=>B8 l e v) FU (0:Int)).bind (Sum.elim (fun o0=>B7 k e (-1)) (fun o1=>B7 k e o1)))=some (if X5 l e=true then .inr (.inr true)else .inl (k+1)):=fun k e hk0 hk=>by
  rw [Xq (p:=fun i=>(l.getD i default).Name ==e.ab1&&(l.getD i default).Token) (f:=fun i=>(i:Int)) (B:=fun v=>B8 l e v) l.length (by omega) (fun i hi=>by
   show B8 l e (i:Int)=_;unfold B8;rw [if_pos (by simp only [bz];omega),Ol hi,aal (by omega)];simp only [Option.bind_some,Vp];cases (l.getD i default).Name ==e.ab1&&(l.getD i default).Token <;>rfl) (by
   show B8 l e _=_;unfold B8;rw [if_neg (by simp only [bz];omega)])]
  have ht:rr l e.ab1=(List.range l.length).any fun i=>(l.getD i default).Name ==e.ab1&&(l.getD i default).Token :=by have:=hT l (fun t=> !(t.Name==e.ab1&&t.Token));unfold rr;rw [<-Bool.not_inj_iff,List.not_any_eq_all_not,List.not_any_eq_all_not];exact this.symm
  unfold X5;rw [ht];cases h:(List.range l.length).find? (fun i=>(l.getD i default).Name ==e.ab1&&(l.getD i default).Token)with
  | none=>
    rw [H6 h];show B7 k e (-1)=_;unfold B7;rw [AU (by omega) (by omega)];cases e.Op==12<;>rfl
  | some i=>
    rw [(D2 h).1];show B7 k e (i:Int)=_;unfold B7;rw [AU (by omega) (by omega),show decide ((0:Int)<=(i:Int))=true by simp];cases e.Op==12<;>rfl
 rw [oe (p:=fun a=>a.f_.any (X5 l)) (c:=true) (B:=fun v=>CN l c v) hc.1 (fun i hi=>by
  show CN l c (i:Int)=_;have he:=(hc.2 _ (List.getElem_mem hi)).2;have hlen:=hc.1;simp only [CN,Mo,jn];rw [if_pos (by simp only [bz];omega),BY hi,aal (by omega)];simp only [Option.bind_some];generalize c.g_[i]=a at he;rw [oe (p:=X5 l) (c:=true) (B:=fun v=>Cx l a v) he (fun k hk=>by
   show Cx l a (k:Int)=_;simp only [Cx,Lh,jn];rw [if_pos (by simp only [bz];omega),BY hk];exact h3 _ _ (by omega) (by omega)) (by
   show Cx l a _=_;unfold Cx;rw [if_neg (by simp only [bz];omega)])]
  cases a.f_.any (X5 l)<;>rfl) (by
  show CN l c _=_;unfold CN;rw [if_neg (by simp only [bz];omega)])]
 unfold RX;cases c.g_.any fun a=>a.f_.any (X5 l)<;>rfl
theorem vn {l:List AO} (hl:l.length<=1000) {c:AO} (hc:AbQ c):Lk l c=some (!RX l c):=by
 simp only [Lk,Pl,jn];rw [oe (p:=fun a=>a.f_.any (X5 l)) (c:=false) (B:=fun v=>Dz l c v) hc.1 (fun i hi=>by
  show Dz l c (i:Int)=_;have he:=(hc.2 _ (List.getElem_mem hi)).2;have hlen:=hc.1;simp only [Dz,Pm,jn];rw [if_pos (by simp only [bz];omega),aal (by omega)];rw [oe (p:=X5 l) (c:=false) (B:=fun v=>C5 l c (i:Int) v) he (fun k hk=>by
   show C5 l c (i:Int) (k:Int)=_;unfold C5;rw [BY hi];simp only [Option.bind_some];rw [if_pos (by simp only [bz];omega),BY hk,aal (by omega)];rw [show X5 l c.g_[i].f_[k]=(c.g_[i].f_[k].Op ==12&& !rr l c.g_[i].f_[k].ab1)from rfl];simp only [Option.bind_some,AgH hl,QC];cases c.g_[i].f_[k].Op ==12<;>cases rr l c.g_[i].f_[k].ab1 <;>rfl) (by
   show C5 l c (i:Int) _=_;unfold C5;rw [BY hi,Option.bind_some,if_neg (by simp only [bz];omega)])]
  cases c.g_[i].f_.any (X5 l)<;>rfl) (by
  show Dz l c _=_;unfold Dz;rw [if_neg (by simp only [bz];omega)])]
 unfold RX;cases c.g_.any fun a=>a.f_.any (X5 l)<;>rfl
def QN (l:List AO) (i:Nat):Option Int:=if !cT (l.getD i default) then some 9 else if cU l (l.getD i default).Name <(i:Int)then some 6 else if RX l (l.getD i default)=true then some 7 else none
def G4 (l:List AO):Int×Int:=if 256<l.length then(-1,5)else match (List.range l.length).find? (fun i=>(QN l i).isSome)with
 | some i=>((i:Int),(QN l i).getD 0)
 | none=>(-1,0)
def y8 (l:List AO):Prop:= ∀ c∈l,AbQ c
theorem AbS {l:List AO} (hc:y8 l):Fw l=some (G4 l):=by
 unfold G4;by_cases hl:256<l.length
 ·unfold Fw;rw [if_pos (by simp only [bz];omega),if_pos hl]
 ·simp only [Fw,MB,jn];rw [if_neg (by simp only [bz];omega),if_neg hl,Xq (p:=fun i=>(QN l i).isSome) (f:=fun i=>((i:Int),(QN l i).getD 0)) (B:=fun v=>CP l v) l.length (by omega) (fun i hi=>by
   show CP l (i:Int)=_;unfold CP QN;rw [if_pos (by simp only [bz];omega),Ol hi,aal (by omega)];have hm:=hc _ (O3 hi);generalize l.getD i default=c at hm;simp only [Option.bind_some,Ae1,Ae2 (l:=l) (by omega),AbR (l:=l) (by omega) hm,decide_eq_true_eq];cases cT c
   ·rfl
   ·by_cases h6:cU l c.Name<(i:Int)
    ·simp [h6]
    ·cases RX l c<;>simp [h6]) (by
   show CP l _=_;unfold CP;rw [if_neg (by simp only [bz];omega)])]
  cases (List.range l.length).find? (fun i=>(QN l i).isSome)<;>rfl
theorem y9 {l:List AO} (hc:y8 l):MD l=some (G4 l):=by
 unfold G4;by_cases hl:256<l.length
 ·unfold MD;rw [if_pos (by simp only [bz];omega),if_pos hl]
 ·simp only [MD,Up,jn];rw [if_neg (by simp only [bz];omega),if_neg hl,Xq (p:=fun i=>(QN l i).isSome) (f:=fun i=>((i:Int),(QN l i).getD 0)) (B:=fun v=>E7 l v) l.length (by omega) (fun i hi=>by
   show E7 l (i:Int)=_;unfold E7 QN;rw [if_pos (by simp only [bz];omega),Ol hi,aal (by omega)];have hm:=hc _ (O3 hi);generalize l.getD i default=c at hm;simp only [Option.bind_some,AgG hm.2,AbP (l:=l) (by omega),vn (l:=l) (by omega) hm,decide_eq_true_eq];cases cT c
   ·rfl
   ·by_cases h6:cU l c.Name<(i:Int)
    ·simp [h6]
    ·cases RX l c<;>simp [h6]) (by
   show E7 l _=_;unfold E7;rw [if_neg (by simp only [bz];omega)])]
  cases (List.range l.length).find? (fun i=>(QN l i).isSome)<;>rfl
end Go.PL
