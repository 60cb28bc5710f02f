/- Plain laws of catalogues: the check. -/
import Derived.Test.YteginlijmbcopaaGreatDoorPlCkW
namespace Go.PL
open Go
set_option maxRecDepth 100000
set_option linter.all false
set_option maxHeartbeats 4000000
theorem w4 {α β γ:Type} [Inhabited α] {l:List α} {p:α->Bool} {c:β} {B:Int->Option (Int⊕(Unit⊕β))} {K:Option γ} {f:β->Option γ} (hn:l.length<9223372036854775807)
 (hB: ∀ (i:Nat) (h:i<l.length),B (i:Int)=some (if p l[i]=true then .inr (.inr c)else .inl ((i:Int)+1))) (hE:B (l.length:Int)=some (.inr (.inl ()))):
 (iter B FU 0).bind (Sum.elim (fun _=>K) f)=if l.any p=true then f c else K:=by
 rw [AdB (q:=fun x=> !p x) hn (fun i h=>by rw [hB i h];cases p l[i]<;>rfl) hE];grind
def w5 (l:List Bx) (s:List UInt8):Int:=match (List.range l.length).find? (fun i=>(l.getD i default).Name ==s)with
 | some i=>(i:Int)
 | none=> -1
theorem AdK {l:List Bx} (hl:l.length<=1000) (s:List UInt8):Jt l s=some (w5 l s):=by
 simp only [Jt,NE,NF,jn];rw [lG (p:=fun i=>(l.getD i default).Name ==s) (f:=fun i=>(i:Int)) (B:=fun v=>D0 l s v) l.length (by omega) (fun i hi=>by
  show D0 l s (i:Int)=_;unfold D0;rw [if_pos (by simp only [bz];omega),VG hi,abT (by omega)];grind) (by
  simp_all [D0])]
 grind [w5]
def AdL (l:List Bx) (s:List UInt8):Bool:=l.any fun t=>t.Name==s&&t.Token
def w6 (l:List Bx) (e:AA):Bool:=e.Op==12&& !AdL l e.Ti
def oV (l:List Bx) (c:Bx):Bool:=c.z_.any fun a=>a.G_.any (w6 l)
def AdM (c:Bx):Prop:=c.z_.length<9223372036854775807/\Ahh c
theorem Aan {l:List Bx} (hl:l.length<=1000) {c:Bx} (hc:AdM c):Ie l c=some (oV l c):=by
 simp only [Ie,Mt,jn];have h3: ∀ (k:Int) (e:AA),0<=k->k<9223372036854775807->((iter (fun(v:Int)=>CH l e v) FU (0:Int)).bind (Sum.elim (fun o0=>En k e (-1)) (fun o1=>En k e o1)))=some (if w6 l e=true then .inr (.inr true)else .inl (k+1)):=fun k e hk0 hk=>by
  rw [lG (p:=fun i=>(l.getD i default).Name ==e.Ti&&(l.getD i default).Token) (f:=fun i=>(i:Int)) (B:=fun v=>CH l e v) l.length (by omega) (fun i hi=>by
   show CH l e (i:Int)=_;unfold CH;rw [if_pos (by simp only [bz];omega),VG hi,abT (by omega)];grind) (by
   simp_all [CH])]
  have ht:AdL l e.Ti=(List.range l.length).any fun i=>(l.getD i default).Name ==e.Ti&&(l.getD i default).Token :=by grind [dY,AdL,List.not_any_eq_all_not]
  grind [w6,En,Ao]
 rw [w4 (p:=fun a=>a.G_.any (w6 l)) (c:=true) (B:=fun v=>Dy l c v) hc.1 (fun i hi=>by
  show Dy l c (i:Int)=_;have he:=(hc.2 _ (List.getElem_mem hi)).2;have hlen:=hc.1;simp only [Dy,Mu,jn];rw [if_pos (by simp only [bz];omega),AD hi,abT (by omega)];simp only [Option.bind_some];generalize c.z_[i]=a at he;rw [w4 (p:=w6 l) (c:=true) (B:=fun v=>Dh l a v) he (fun k hk=>by
   show Dh l a (k:Int)=_;simp only [Dh,Lp,jn];rw [if_pos (by simp only [bz];omega),AD hk];grind) (by
   simp_all [Dh])]
  grind) (by
  simp_all [Dy])]
 grind [oV]
def lP (l:List Bx) (i:Nat):Option Int:=if !wZ (l.getD i default) then some 9 else if w5 l (l.getD i default).Name <(i:Int)then some 6 else if oV l (l.getD i default)=true then some 7 else none
def Ns (l:List Bx):Int×Int:=if 256<l.length then(-1,5)else match (List.range l.length).find? (fun i=>(lP l i).isSome)with
 | some i=>((i:Int),(lP l i).getD 0)
 | none=>(-1,0)
def Abd (l:List Bx):Prop:= ∀ c∈l,AdM c
theorem Aao {l:List Bx} (hc:Abd l):FN l=some (Ns l):=by
 unfold Ns;by_cases hl:256<l.length
 ·unfold FN;grind
 ·simp only [FN,ME,jn];rw [if_neg (by simp only [bz];omega),if_neg hl,lG (p:=fun i=>(lP l i).isSome) (f:=fun i=>((i:Int),(lP l i).getD 0)) (B:=fun v=>DG l v) l.length (by omega) (fun i hi=>by
   show DG l (i:Int)=_;unfold DG lP;rw [if_pos (by simp only [bz];omega),VG hi,abT (by omega)];have hm:=hc _ (kA hi);generalize l.getD i default=c at hm;simp only [Option.bind_some,AdJ,AdK (l:=l) (by omega),Aan (l:=l) (by omega) hm,decide_eq_true_eq];grind) (by
   simp_all [DG])]
  grind
end Go.PL
