/- Plain laws of games that begin: the reference's new game is the program's. -/
import Derived.Test.YteginlijmbcopaaGreatDoorPlCkZ
import Derived.Test.YteginlijmbcopaaGreatDoorPlCfw
namespace Go.PL
open Go
set_option maxRecDepth 100000
set_option linter.all false
set_option maxHeartbeats 1000000
theorem shB (s i:Int) (l:List Int):IX s i l=Bl s i l:=by
 have hg:decide ((1:Int)<=i)=decide ((0:Int)<i):=by grind
 have hb:V3 s (Aa (i+1))=HK s (Aa (i+1)):=rfl;unfold IX Bl;rw [hg,hb];split
 ·cases HK s (Aa (i+1))with
  | none=>rfl
  | some r=>
    simp only [Option.bind_some];grind [idx]
 ·rfl
theorem shR {l:List Int} (s:Int) (hl:l.length<=900):Lz s l=CP s l:=by unfold Lz CP;rw [AaU (by omega),EY (by unfold maxLen;omega)];simp only [Option.bind_some];rw [EY (by simp)];simp only [Option.bind_some,funext fun(v:Int×Int×List Int)=>shB v.1 v.2.1 v.2.2];rfl
theorem AgR {c:AA} (hc:th c):Qy c=some (Ws c):=by
 rw [<-lF hc];unfold Qy IK;rw [AaT hc.1,uW hc.1];have hB: ∀ i,L4 c i=CH c i:=fun i=>by
  unfold L4 CH jn;split
  ·cases hd:idx c.i_ i with
   | none=>
     have:(fun v=>FF c i v)=fun _=>none:=funext (by grind [FF]);rw [this];rfl
   | some d=>
     have:(fun v=>FF c i v)=fun v=>CG c d v:=funext (by grind [FF,CG]);rw [this];rfl
  ·rfl
 have hJ:N1 c=Hd c:=by unfold N1 Hd;rw [funext hB];rfl
 simp only [hJ];rfl
theorem AiA (p:Int) (r:List Int×Int) (i:Int) (x1 x2:List Int) (x3:List AK) (x4:List Ax) (x5:List Bn) (x6 x7 x8:Int) (x9:Bool) (y1 y2 y3 y4 y5:Int) (y6:List Int) (y7 y8:Int) (y9:List Am) (z1:Int) (z2:List Al):
 N2 p r i x1 x2 x3 x4 x5 x6 x7 x8 x9 y1 y2 y3 y4 y5 y6 y7 y8 y9 z1 z2=Dy p r i x1 x2 x3 x4 x5 x6 x7 x8 x9 y1 y2 y3 y4 y5 y6 y7 y8 y9 z1 z2:=by
 unfold N2 Dy;cases idx z2 p<;>rfl
theorem Aj0 {c:AA} (hd: ∀ d∈c.i_,d.length<=900) (p:Int) (x1 x2:List Int) (x3:List AK) (x4:List Ax) (x5:List Bn) (x6 x7 x8:Int) (x9:Bool) (y1 y2 y3 y4 y5:Int) (y6:List Int) (y7 y8:Int) (y9:List Am) (z1:Int) (z2:List Al):
 PV c p x1 x2 x3 x4 x5 x6 x7 x8 x9 y1 y2 y3 y4 y5 y6 y7 y8 y9 z1 z2=D4 c p x1 x2 x3 x4 x5 x6 x7 x8 x9 y1 y2 y3 y4 y5 y6 y7 y8 y9 z1 z2:=by
 unfold PV D4 jn;cases he:idx c.i_ p with
 | none=>rfl
 | some d=>
   simp only [Option.bind_some];rw [shR y5 (hd d (by
    have hx:=fM he;have hb:=N7 he;grind))]
   simp only [AiA];rfl
theorem AgS {k:Nat} {f s:Int} (hk:2<=k/\k<=4) (hf:0<=f/\f<k):kU (k:Int) f s=some (stN f 1 s [] (List.replicate k pl0)):=by
 have h1:k=2\/k=3\/k=4:=by omega
 have h2:f=0\/f=1\/f=2\/f=3:=by omega
 rcases h1 with rfl | rfl | rfl<;>rcases h2 with rfl | rfl | rfl | rfl<;>first | omega | (change _=_;kernel_rfl)
def S0:Ai:=⟨[],[],[],[],[],[],[],0,0,0,false,0,0,0,0,0,[],0,0⟩
theorem AgT {c:AA} (hc:th c):YP c=Dz c:=by
 unfold YP Dz;rw [AgR hc,lF hc];simp only [Option.bind_some];by_cases h:Ws c=0
 ·obtain⟨h1,⟨h2,h3,h4,h5⟩,h6,h7⟩:=tk h;rw [if_neg (by simp [h]),if_neg (by simp [h]),Aes ⟨h2,h3⟩ ⟨h4,h5⟩,AgS ⟨h2,h3⟩ ⟨h4,h5⟩];simp only [Option.bind_some,Aj0 (fun d hd=>by have:=h6 d hd;omega)];rfl
 grind
theorem Aj1 {c:AA} (hc:th c): ∃ s,Dz c=some (s,Ws c)/\((Ws c=0/\s=AdE c)\/s=S0):=by
 by_cases h:Ws c=0
 ·grind [Aiw]
 ·refine⟨S0,?_, .inr rfl⟩;unfold Dz;rw [lF hc];simp only [Option.bind_some];rw [if_pos (by simpa using h)];rfl
theorem AgU {β:Type} {B:Int->Option (Int⊕(Unit⊕β))} (n:Nat) (hn:n<9223372036854775807) (hB: ∀ i:Nat,i<n->B (i:Int)=some (.inl ((i:Int)+1))) (hE:B (n:Int)=some (.inr (.inl ()))):iter B FU 0=some (.inl ()):=
 YI (fun i=>(i:Int)) n hn (by grind) hE rfl
theorem vd {l:List Int} (hl:l.length<9223372036854775807):GY l l=some true:=by
 unfold GY jn;rw [if_neg (by simp),AgU l.length hl (fun i hi=>by
  unfold Pu;rw [if_pos (by simp only [bz];omega),BU hi,Tk (by omega)];simp) (by
  simp_all [Pu])]
 rfl
def AgV (p:Al):Prop:=p.S_.length<9223372036854775807/\p.Hand.length<9223372036854775807/\p.acm.length<9223372036854775807
theorem AgW {p:Al} (h:AgV p):GZ p p=some true:=by unfold GZ;rw [vd h.1,vd h.2.1,vd h.2.2];simp [gd]
theorem Aa7 {s:Ai} (h1:s.g_.length<9223372036854775807) (h2: ∀ p∈s.g_,AgV p) (h3:s.d_.length<9223372036854775807) (e1:s.Stack=[]) (e2:s.abm=[]) (e3:s.ad0=[]) (e4:s.Td=[]) (e5:s.aet=[]) (e6:s.Extra=[]):PM s s=some true:=by
 have hl:Qu s s=some true:=by
  unfold Qu jn;simp only [bne_self_eq_false,Bool.false_eq_true,if_false,Option.bind_some];rw [AgU s.g_.length h1 (fun i hi=>by
   unfold LX;rw [if_pos (by simp only [bz];omega),BU hi,Tk (by omega)];grind [AgW]) (by
   simp_all [LX])]
  show NR s s=_;unfold NR jn;rw [AgU s.d_.length h3 (fun i hi=>by
   unfold LW;rw [if_pos (by simp only [bz];omega),BU hi,Tk (by omega)];simp) (by
   simp_all [LW])]
  show NQ s=_;unfold NQ jn;rw [uX (s:=(0:Int)) (r:=()) (by unfold QZ;rw [if_neg (by rw [e1];simp)])];show NP s=_;unfold NP jn;rw [uX (s:=(0:Int)) (r:=()) (by unfold QY;rw [if_neg (by rw [e2];simp)])];show NO s=_;unfold NO jn;rw [uX (s:=(0:Int)) (r:=()) (by unfold QX;rw [if_neg (by rw [e3];simp)])];rfl
 simp_all [PM,vd,gd]
theorem Aet {c:AA} (hd: ∀ d∈c.i_,d.length<=900): ∀ p:Nat,p<=c.i_.length-> ∀ x∈(DW c p).2.2.2,AgV x
 | 0,_,x,hx=>by rw [List.eq_of_mem_replicate hx];exact⟨by decide,by decide,by decide⟩
 | p+1,hp,x,hx=>by
   obtain⟨q1,l,hs,akh⟩:=AgM (l:=c.i_.getD p []) (s:=(DW c p).2.1) (by grind);have hl:l.length<=900:=by rw [akh.length_eq,List.getD_eq_getElem?_getD,List.getElem?_eq_getElem (by omega)];grind
   have e:DW c (p+1)=((DW c p).1+l.length,q1,(DW c p).2.2.1++Wt (DW c p).1 p l,(DW c p).2.2.2.set p (plL (Jb (DW c p).1 l.length))):=by grind [stp,DW]
   rw [e]at hx;rcases List.mem_or_eq_of_mem_set hx with q | q
   ·exact Aet hd p (by omega) x q
   ·rw [q];exact⟨by show (Jb _ _).length <_;rw [iP];omega,by show 0<_;omega,by show 0<_;omega⟩
theorem AdI {c:AA} {s:Ai} (h:(Ws c=0/\s=AdE c)\/s=S0):PM s s=some true:=by
 rcases h with ⟨h,rfl⟩ | rfl
 ·obtain⟨h1,⟨h2,h3,h4,h5⟩,h6,h7⟩:=tk h;have hd: ∀ d∈c.i_,d.length<=900:=(by grind);obtain⟨ok, -⟩:=AaY hd c.i_.length (Nat.le_refl _) h3;have o1:=ok.os;have o2:=ok.len;exact Aa7 (by show (DW c c.i_.length).2.2.2.length <_;omega) (Aet hd c.i_.length (Nat.le_refl _)) (by show (DW c c.i_.length).2.2.1.length <_;omega) rfl rfl rfl rfl rfl rfl
 ·exact Aa7 (by decide) (fun p hp=>by cases hp) (by decide) rfl rfl rfl rfl rfl rfl
theorem eO (ha:IL=some true) {c:AA} (hd:c.i_.length<9223372036854775807) (hc:th c):FM c=some true:=by obtain⟨b,hb, -⟩:=Aix c hd;grind [Aj1,FM,AgT,AdI,gd]
end Go.PL
