/- Plain laws of catalogues: the check. -/
import Derived.Test.YteginlijmbcopaaGreatDoorPlCkW
namespace Go.PL
open Go
set_option maxRecDepth 100000
set_option linter.all false
set_option maxHeartbeats 4000000
theorem pR {α β γ:Type} [Inhabited α] {l:List α} {p:α->Bool} {c:β} {B:Int->Option (Int⊕(Unit⊕β))} {K:Option γ} {f:β->Option γ} (hn:l.length<9223372036854775807)
 (hB: ∀ (i:Nat) (h:i<l.length),B (i:Int)=some (if p l[i]=true then .inr (.inr c)else .inl ((i:Int)+1))) (hE:B (l.length:Int)=some (.inr (.inl ()))):
 (iter B FU 0).bind (Sum.elim (fun _=>K) f)=if l.any p=true then f c else K:=by
 rw [AaF (q:=fun x=> !p x) hn (fun i h=>by rw [hB i h];cases p l[i]<;>rfl) hE];grind
def pS (l:List AO) (s:List UInt8):Int:=match (List.range l.length).find? (fun i=>(l.getD i default).Name ==s)with
 | some i=>(i:Int)
 | none=> -1
theorem AgL {l:List AO} (hl:l.length<=1000) (s:List UInt8):Jo l s=some (pS l s):=by
 simp only [Jo,Od,Oe,jn];rw [XJ (p:=fun i=>(l.getD i default).Name ==s) (f:=fun i=>(i:Int)) (B:=fun v=>DQ l s v) l.length (by omega) (fun i hi=>by
  show DQ l s (i:Int)=_;unfold DQ;rw [if_pos (by simp only [bz];omega),OB hi,Tk (by omega)];grind) (by
  simp_all [DQ])]
 grind [pS]
theorem Adz {l:List AO} (hl:l.length<=1000) (s:List UInt8):T7 l s=some (pS l s):=by
 simp only [T7,Xy,jn];rw [XJ (p:=fun i=>(l.getD i default).Name ==s) (f:=fun i=>(i:Int)) (B:=fun v=>IE l s v) l.length (by omega) (fun i hi=>by
  show IE l s (i:Int)=_;unfold IE;rw [if_pos (by simp only [bz];omega),OB hi,Tk (by omega)];grind) (by
  simp_all [IE])]
 grind [pS]
def xk (l:List AO) (s:List UInt8):Bool:=l.any fun t=>t.Name==s&&t.Token
theorem Ait {l:List AO} (hl:l.length<=1000) (s:List UInt8):Qr l s=some (xk l s):=by
 simp only [Qr,T8,jn];rw [pR (l:=l) (p:=fun t=>t.Name==s&&t.Token) (c:=true) (B:=fun v=>GX l s v) (by omega) (fun i hi=>by
  show GX l s (i:Int)=_;unfold GX;rw [if_pos (by simp only [bz];omega),BU hi,Tk (by omega)];grind [RP]) (by
  simp_all [GX])]
 grind [xk]
def pT (l:List AO) (e:Av):Bool:=e.Op==12&& !xk l e.ad1
def cY (l:List AO) (c:AO):Bool:=c.j_.any fun a=>a.n_.any (pT l)
def AdA (c:AO):Prop:=c.j_.length<9223372036854775807/\Ain c
theorem AdB {l:List AO} (hl:l.length<=1000) {c:AO} (hc:AdA c):H6 l c=some (cY l c):=by
 simp only [H6,MC,jn];have h3: ∀ (k:Int) (e:Av),0<=k->k<9223372036854775807->((iter (fun(v:Int)=>Cz l e v) FU (0:Int)).bind (Sum.elim (fun o0=>Eg k e (-1)) (fun o1=>Eg k e o1)))=some (if pT l e=true then .inr (.inr true)else .inl (k+1)):=fun k e hk0 hk=>by
  rw [XJ (p:=fun i=>(l.getD i default).Name ==e.ad1&&(l.getD i default).Token) (f:=fun i=>(i:Int)) (B:=fun v=>Cz l e v) l.length (by omega) (fun i hi=>by
   show Cz l e (i:Int)=_;unfold Cz;rw [if_pos (by simp only [bz];omega),OB hi,Tk (by omega)];grind) (by
   simp_all [Cz])]
  have ht:xk l e.ad1=(List.range l.length).any fun i=>(l.getD i default).Name ==e.ad1&&(l.getD i default).Token :=by grind [iO,xk,List.not_any_eq_all_not]
  grind [pT,Eg,A7]
 rw [pR (p:=fun a=>a.n_.any (pT l)) (c:=true) (B:=fun v=>Ds l c v) hc.1 (fun i hi=>by
  show Ds l c (i:Int)=_;have he:=(hc.2 _ (List.getElem_mem hi)).2;have hlen:=hc.1;simp only [Ds,MD,jn];rw [if_pos (by simp only [bz];omega),BU hi,Tk (by omega)];simp only [Option.bind_some];generalize c.j_[i]=a at he;rw [pR (p:=pT l) (c:=true) (B:=fun v=>Dc l a v) he (fun k hk=>by
   show Dc l a (k:Int)=_;simp only [Dc,Lv,jn];rw [if_pos (by simp only [bz];omega),BU hk];grind) (by
   simp_all [Dc])]
  grind) (by
  simp_all [Ds])]
 grind [cY]
theorem xl {l:List AO} (hl:l.length<=1000) {c:AO} (hc:AdA c):Ly l c=some (!cY l c):=by
 simp only [Ly,Py,jn];rw [pR (p:=fun a=>a.n_.any (pT l)) (c:=false) (B:=fun v=>EM l c v) hc.1 (fun i hi=>by
  show EM l c (i:Int)=_;have he:=(hc.2 _ (List.getElem_mem hi)).2;have hlen:=hc.1;simp only [EM,Pz,jn];rw [if_pos (by simp only [bz];omega),Tk (by omega)];rw [pR (p:=pT l) (c:=false) (B:=fun v=>DR l c (i:Int) v) he (fun k hk=>by
   show DR l c (i:Int) (k:Int)=_;unfold DR;rw [BU hi];simp only [Option.bind_some];rw [if_pos (by simp only [bz];omega),BU hk,Tk (by omega)];rw [show pT l c.j_[i].n_[k]=(c.j_[i].n_[k].Op ==12&& !xk l c.j_[i].n_[k].ad1)from rfl];grind [Ait,RP]) (by
   simp_all [DR,BU])]
  grind) (by
  simp_all [EM])]
 grind [cY]
def XL (l:List AO) (i:Nat):Option Int:=if !pQ (l.getD i default) then some 9 else if pS l (l.getD i default).Name <(i:Int)then some 6 else if cY l (l.getD i default)=true then some 7 else none
def L5 (l:List AO):Int×Int:=if 256<l.length then(-1,5)else match (List.range l.length).find? (fun i=>(XL l i).isSome)with
 | some i=>((i:Int),(XL l i).getD 0)
 | none=>(-1,0)
def AaS (l:List AO):Prop:= ∀ c∈l,AdA c
theorem uW {l:List AO} (hc:AaS l):FE l=some (L5 l):=by
 unfold L5;by_cases hl:256<l.length
 ·unfold FE;grind
 ·simp only [FE,MQ,jn];rw [if_neg (by simp only [bz];omega),if_neg hl,XJ (p:=fun i=>(XL l i).isSome) (f:=fun i=>((i:Int),(XL l i).getD 0)) (B:=fun v=>Dx l v) l.length (by omega) (fun i hi=>by
   show Dx l (i:Int)=_;unfold Dx XL;rw [if_pos (by simp only [bz];omega),OB hi,Tk (by omega)];have hm:=hc _ (a8 hi);generalize l.getD i default=c at hm;simp only [Option.bind_some,AgK,AgL (l:=l) (by omega),AdB (l:=l) (by omega) hm,decide_eq_true_eq];grind) (by
   simp_all [Dx])]
  grind
theorem AaT {l:List AO} (hc:AaS l):MS l=some (L5 l):=by
 unfold L5;by_cases hl:256<l.length
 ·unfold MS;grind
 ·simp only [MS,UE,jn];rw [if_neg (by simp only [bz];omega),if_neg hl,XJ (p:=fun i=>(XL l i).isSome) (f:=fun i=>((i:Int),(XL l i).getD 0)) (B:=fun v=>He l v) l.length (by omega) (fun i hi=>by
   show He l (i:Int)=_;unfold He XL;rw [if_pos (by simp only [bz];omega),OB hi,Tk (by omega)];have hm:=hc _ (a8 hi);generalize l.getD i default=c at hm;simp only [Option.bind_some,Ais hm.2,Adz (l:=l) (by omega),xl (l:=l) (by omega) hm,decide_eq_true_eq];grind) (by
   simp_all [He])]
  grind
end Go.PL
