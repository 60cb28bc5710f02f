/- The plain law of BeginHands: a card moved. -/
import Derived.Test.YtfmknfnfpeopeaaGreatDoorPlBhL
namespace Go.PL
open Go
set_option linter.all false
set_option maxRecDepth 100000
theorem nb {α:Type} {p:Prop} [Decidable p] (h:p) {f:Unit→Option α}:(AS p).bind f=f ():=by rw [FF h];rfl
section
variable {p0 p1 p2 p3:Ar} {A C os:List Aa} {o:Aa} {id n m q n2 m2 q2:Int}
theorem lI (hl:(A++o::C).length ≤900) (hA: ∀ a∈A,(a.Id==id)=false) (ho:(o.Id==id)=true):L4 (SB p0 p1 (A++o::C) n m q) id=some (A.length:Int):=by
 have s1:iter (fun(v:Int)=>FP (SB p0 p1 (A++o::C) n m q) id v) FU (0:Int)=some (.inr (A.length:Int)):=by
  refine Vh (A:=A) (C:=C) (o:=o) (p:=fun x=>x.Id==id) (by omega) hA ho fun i hi=>?_
  unfold FP
  rw [show (SB p0 p1 (A++o::C) n m q).Objects =A++o::C from rfl,if_pos (by simp at hi ⊢;omega),Bl hi,AA (by omega) (by omega)]
  simp only [Option.bind_some]
  split<;>rfl
 show (iter (fun(v:Int)=>FP (SB p0 p1 (A++o::C) n m q) id v) FU (0:Int)).bind _=_
 rw [s1]
 rfl
theorem bn (hl:(A++o::C).length ≤900) (hA: ∀ a∈A,(a.Id==id)=false) (ho:(o.Id==id)=true):KQ (SB p0 p1 (A++o::C) n m q) id=some (o,true):=by
 unfold KQ
 rw [lI hl hA ho]
 simp only [Option.bind_some]
 rw [if_neg (by simp),show (SB p0 p1 (A++o::C) n m q).Objects =A++o::C from rfl,Bl (by simp)]
 simp
theorem bp {a2 a3:Int} {a4:Bool} {r1:Aa×Bool} (hl:(A++o::C).length ≤900):C6 a2 a3 a4 r1 (SB p0 p1 (A++o::C) n m q) (A.length:Int)=Le a2 a3 a4 r1 (SB p0 p1 (A++o::C) n m q) (A++C) 0 1 0 false 1 0 n m q 0 (-1) 0 1 0 false 1 0 n m q 0 (-1):=by
 have hlen:(A++o::C).length =A.length+C.length+1:=by simp;omega
 have e1:((A.length:Int) - 0).toNat =A.length:=by omega
 have e2:((A.length:Int)+1).toNat =A.length+1:=by omega
 have e3:(((A++o::C).length :Int) - ((A.length:Int)+1)).toNat =C.length:=by omega
 have e4:((A.length:Int) - 0+(((A++o::C).length :Int) - ((A.length:Int)+1))).toNat =A.length+C.length:=by omega
 have d1:(A++o::C).take A.length=A:=by simp
 have d2:((A++o::C).drop (A.length+1)).take C.length=C:=by
  rw [List.drop_append,List.drop_of_length_le (by omega)];simp
 have d3:((A++o::C).drop (A.length+C.length)).length =1:=by simp
 unfold C6 jn
 rw [show (SB p0 p1 (A++o::C) n m q).Objects =A++o::C from rfl,AA (by omega) (by omega)]
 refine(nb (by omega)).trans ?_
 rw [if_neg (by simp;omega)]
 refine(nb (by omega)).trans ?_
 refine(nb (by omega)).trans ?_
 refine(nb (by omega)).trans ?_
 rw [e1,e2,e3,e4,d1,d2]
 generalize hX:(A++o::C).drop (A.length+C.length)=X at d3 ⊢
 have l1:(A++(C++X)).length =A.length+C.length+1:=by simp;omega
 have t1:(A++(C++X)).take (A.length+C.length)=A++C:=by
  rw [←List.append_assoc,List.take_append_of_le_length (by simp),List.take_of_length_le (by simp)]
 show ((AS _).bind _)=_
 refine(nb (by rw [l1];omega)).trans ?_
 refine(nb (by rw [l1];omega)).trans ?_
 rw [Int.toNat_natCast,t1]
 generalize hY:List.replicate _ _++(A++(C++X)).drop _=Y
 have hYl:1≤Y.length:=by
  rw [←hY,List.length_append,List.length_replicate]
  omega
 show ((AS _).bind _)=_
 refine(nb (by simp;omega)).trans ?_
 rw [List.take_append_of_le_length (by simp),List.take_of_length_le (by simp)]
 rfl
theorem Qg {a2 a3:Int} {a4:Bool} {r1:Aa×Bool} {l1:List Aa} {nn:Int} {ps:List Ar} {t1 t2 t3 t5 t6 t7 t8 t9 t10 t11 c1 c2 c3 c5 c6 c7 c8 c9 c10 c11:Int} {t4 c4:Bool}:
 CN a2 a3 a4 r1 (SB p0 p1 os n m q) l1 t1 t2 t3 t4 t5 t6 t7 t8 t9 t10 t11 c1 c2 c3 c4 c5 c6 c7 c8 c9 c10 c11 nn ps=FR a2 a3 a4 r1 (SB p0 p1 os n m q) l1 nn ps t1 t2 t3 t4 t5 t6 t7 t8 t9 t10 t11 [] c1 c2 c3 c4 c5 c6 c7 c8 c9 c10 c11:=by
 have s2:iter (fun(v:Int)=>Ko r1 (SB p0 p1 os n m q) v) FU (0:Int)=some (.inl ()):=Yp rfl
 unfold CN jn
 rw [s2]
 rfl
def lJ (o:Aa) (n z m:Int):Aa:=⟨n,o.Card,o.Owner,o.Owner,z,o.Token,false,false,false,0,⟨0,0,0⟩,m, -1, -1,false,0,0⟩
theorem lK {a2 a3:Int} (h:a2=1∨a2=2):Jx o n a2 a3 m=some (lJ o n a2 m):=by
 rcases h with rfl | rfl<;>rfl
theorem br {a2 a3:Int} {a4 b:Bool} {l1:List Aa} {nn:Int} {ps:List Ar} {t1 t2 t3 t5 t6 t9 t10 t11 c1 c2 c3 c5 c6 c7 c8 c9 c10 c11:Int} {t4 c4:Bool} {r2:Af} (h:a2=1∨a2=2) (hT:o.Token=false) (hn: ∀ x∈l1,x.Id<n) (hl:l1.length≤900):
 FR a2 a3 a4 (o,b) r2 l1 nn ps t1 t2 t3 t4 t5 t6 n m t9 t10 t11 [] c1 c2 c3 c4 c5 c6 c7 c8 c9 c10 c11=BI a2 a4 r2 l1 nn ps t1 t2 t3 t4 t5 t6 n m t9 t10 t11 [] (lJ o n a2 m) (l1.length:Int):=by
 have hid:(lJ o n a2 m).Id =n:=rfl
 have s1:iter (fun(v:Int)=>Fi l1 (lJ o n a2 m) v) FU (0:Int)=some (.inl ()):=by
  refine jJ (l:=l1) (p:=fun x:Aa=>x.Id==(lJ o n a2 m).Id) (by omega) (fun x hx=>by have:=hn x hx;rw [hid];simp;omega) (fun i hi=>?_) ?_
  ·unfold Fi
   rw [if_pos (by simp;omega),Bl hi,AA (by omega) (by omega)]
   simp only [Option.bind_some]
   split<;>rfl
  ·unfold Fi
   rw [if_neg (by simp)]
 have s2:iter (fun(v:Int)=>Fh l1 (lJ o n a2 m) v) FU (0:Int)=some (.inl ()):=by
  refine jJ (l:=l1) (p:=fun x:Aa=>decide ((lJ o n a2 m).Id <x.Id)) (by omega) (fun x hx=>by have:=hn x hx;rw [hid];simp;omega) (fun i hi=>?_) ?_
  ·unfold Fh
   rw [if_pos (by simp;omega),Bl hi,AA (by omega) (by omega)]
   simp only [Option.bind_some]
   split<;>rfl
  ·unfold Fh
   rw [if_neg (by simp)]
 unfold FR jn
 rw [lK h]
 simp only [Option.bind_some,hT]
 rw [s1]
 simp only [Option.bind_some,Sum.elim_inl]
 unfold Kn Ld jn
 rw [s2]
 rfl
theorem ja {card:Int} {l1:List Aa} (hl:l1.length≤900) (h1:0<l1.length) (hh:p0.Hand.length≤900):
 BI 1 false (SB p2 p3 os n2 m2 q2) l1 2 [p0,p1] 0 1 0 false 1 0 n m q 0 (-1) [] ⟨n,card,0,0,1,false,false,false,false,0,⟨0,0,0⟩,m, -1, -1,false,0,0⟩ (l1.length:Int)=some (SB {p0 with Hand:=p0.Hand++[n]} p1 (l1++[⟨n,card,0,0,1,false,false,false,false,0,⟨0,0,0⟩,m, -1, -1,false,0,0⟩]) (Al (n+1)) (Al (m+1)) q,n):=by
 unfold BI
 refine(nb (by omega)).trans ?_
 rw [if_neg (by simp),if_pos (by simp),LW (by simp;omega) (by omega)]
 show (EW 8 p0.Hand [n]).bind _=_
 rw [LW (by simp;omega) (by omega)]
 rfl
theorem jb {card:Int} {l1:List Aa} (hl:l1.length≤900) (h1:0<l1.length) (hh:p0.Library.length≤900):
 BI 2 false (SB p2 p3 os n2 m2 q2) l1 2 [p0,p1] 0 1 0 false 1 0 n m q 0 (-1) [] ⟨n,card,0,0,2,false,false,false,false,0,⟨0,0,0⟩,m, -1, -1,false,0,0⟩ (l1.length:Int)=some (SB {p0 with Library:=n::p0.Library} p1 (l1++[⟨n,card,0,0,2,false,false,false,false,0,⟨0,0,0⟩,m, -1, -1,false,0,0⟩]) (Al (n+1)) (Al (m+1)) q,n):=by
 unfold BI
 refine(nb (by omega)).trans ?_
 rw [if_neg (by simp),if_pos (by simp),LW (by simp;omega) (by omega)]
 show (AS (0≤(0:Int)∧(0:Int)≤((p0.Library.length:Nat):Int)∧0<([n]:List Int).length ∧(p0.Library.length+([n]:List Int).length)*8≤140737488355328)).bind _=_
 refine(nb (by simp;omega)).trans ?_
 rfl
theorem jc {card:Int} {l1:List Aa} (hl:l1.length≤900) (h1:0<l1.length) (hh:p1.Hand.length≤900):
 BI 1 false (SB p2 p3 os n2 m2 q2) l1 2 [p0,p1] 0 1 0 false 1 0 n m q 0 (-1) [] ⟨n,card,1,1,1,false,false,false,false,0,⟨0,0,0⟩,m, -1, -1,false,0,0⟩ (l1.length:Int)=some (SB p0 {p1 with Hand:=p1.Hand++[n]} (l1++[⟨n,card,1,1,1,false,false,false,false,0,⟨0,0,0⟩,m, -1, -1,false,0,0⟩]) (Al (n+1)) (Al (m+1)) q,n):=by
 unfold BI
 refine(nb (by omega)).trans ?_
 rw [if_neg (by simp),if_pos (by simp),LW (by simp;omega) (by omega)]
 show (EW 8 p1.Hand [n]).bind _=_
 rw [LW (by simp;omega) (by omega)]
 rfl
theorem jd {card:Int} {l1:List Aa} (hl:l1.length≤900) (h1:0<l1.length) (hh:p1.Library.length≤900):
 BI 2 false (SB p2 p3 os n2 m2 q2) l1 2 [p0,p1] 0 1 0 false 1 0 n m q 0 (-1) [] ⟨n,card,1,1,2,false,false,false,false,0,⟨0,0,0⟩,m, -1, -1,false,0,0⟩ (l1.length:Int)=some (SB p0 {p1 with Library:=n::p1.Library} (l1++[⟨n,card,1,1,2,false,false,false,false,0,⟨0,0,0⟩,m, -1, -1,false,0,0⟩]) (Al (n+1)) (Al (m+1)) q,n):=by
 unfold BI
 refine(nb (by omega)).trans ?_
 rw [if_neg (by simp),if_pos (by simp),LW (by simp;omega) (by omega)]
 show (AS (0≤(0:Int)∧(0:Int)≤((p1.Library.length:Nat):Int)∧0<([n]:List Int).length ∧(p1.Library.length+([n]:List Int).length)*8≤140737488355328)).bind _=_
 refine(nb (by simp;omega)).trans ?_
 rfl
theorem n7 {h0 h1 l1 L1 L2:List Int} {c card ctl dm sp cp at_ bs sh:Int} {tp sk dd bl:Bool} {cn:A3 Int} {A C:List Aa} {o:Aa} (ho:o=(⟨id,card,0,ctl,2,false,tp,sk,dd,dm,cn,sp,cp,at_,bl,bs,sh⟩:Aa))
 (k0:ac (B6 (L1++id::L2) h0)) (k1:ac (B6 l1 h1)) (hs:(L1++id::L2).length ≤800) (ht:h0.length≤800) (hN:(L1++id::L2).Nodup)
 (hl:(A++o::C).length ≤800) (h2:2≤(A++o::C).length) (hA: ∀ a∈A,(a.Id==id)=false) (hn: ∀ x∈A++C,x.Id<n):
 Cm (SB (B6 (L1++id::L2) h0) (B6 l1 h1) (A++o::C) n m q) id 1 c false=some (SB (B6 (L1++L2) (h0++[n])) (B6 l1 h1) (A++C++[⟨n,card,0,0,1,false,false,false,false,0,⟨0,0,0⟩,m, -1, -1,false,0,0⟩]) (Al (n+1)) (Al (m+1)) q,n):=by
 subst ho
 have hlen:(A++(⟨id,card,0,ctl,2,false,tp,sk,dd,dm,cn,sp,cp,at_,bl,bs,sh⟩:Aa)::C).length =A.length+C.length+1:=by simp;omega
 unfold Cm jn
 rw [bn (by omega) hA (by simp),SE k0 k1 (by omega)]
 have s1:iter (fun(v:Int)=>A2 ((⟨id,card,0,ctl,2,false,tp,sk,dd,dm,cn,sp,cp,at_,bl,bs,sh⟩:Aa),true) (SB (B6 (L1++id::L2) h0) (B6 l1 h1) (A++(⟨id,card,0,ctl,2,false,tp,sk,dd,dm,cn,sp,cp,at_,bl,bs,sh⟩:Aa)::C) n m q) v) FU (0:Int)=some (.inr (A.length:Int)):=by
  refine Vh (A:=A) (C:=C) (o:=⟨id,card,0,ctl,2,false,tp,sk,dd,dm,cn,sp,cp,at_,bl,bs,sh⟩) (p:=fun x=>x.Id==id) (by omega) hA (by simp) fun i hi=>?_
  unfold A2
  rw [show (SB (B6 (L1++id::L2) h0) (B6 l1 h1) (A++(⟨id,card,0,ctl,2,false,tp,sk,dd,dm,cn,sp,cp,at_,bl,bs,sh⟩:Aa)::C) n m q).Objects =A++(⟨id,card,0,ctl,2,false,tp,sk,dd,dm,cn,sp,cp,at_,bl,bs,sh⟩:Aa)::C from rfl,if_pos (by simp at hi ⊢;omega),Bl hi,AA (by omega) (by omega)]
  simp only [Option.bind_some]
  split<;>rfl
 show (iter (fun(v:Int)=>A2 ((⟨id,card,0,ctl,2,false,tp,sk,dd,dm,cn,sp,cp,at_,bl,bs,sh⟩:Aa),true) (SB (B6 (L1++id::L2) h0) (B6 l1 h1) (A++(⟨id,card,0,ctl,2,false,tp,sk,dd,dm,cn,sp,cp,at_,bl,bs,sh⟩:Aa)::C) n m q) v) FU (0:Int)).bind _=_
 rw [s1]
 show C6 1 c false _ (SB (B6 (L1++id::L2) h0) (B6 l1 h1) (A++(⟨id,card,0,ctl,2,false,tp,sk,dd,dm,cn,sp,cp,at_,bl,bs,sh⟩:Aa)::C) n m q) (A.length:Int)=_
 rw [bp (by omega)]
 show (B5 (L1++id::L2) id).bind _=_
 rw [Qf (by omega) hN]
 show CN 1 c false ((⟨id,card,0,ctl,2,false,tp,sk,dd,dm,cn,sp,cp,at_,bl,bs,sh⟩:Aa),true) (SB (B6 (L1++id::L2) h0) (B6 l1 h1) (A++(⟨id,card,0,ctl,2,false,tp,sk,dd,dm,cn,sp,cp,at_,bl,bs,sh⟩:Aa)::C) n m q) (A++C) 0 1 0 false 1 0 n m q 0 (-1) 0 1 0 false 1 0 n m q 0 (-1) 2 [B6 (L1++L2) h0,B6 l1 h1]=_
 rw [Qg,br (by decide) rfl hn (by simp;omega)]
 exact ja (by simp;omega) (by simp;omega) (by show h0.length≤900;omega)
theorem n8 {h1 l0 l1 L1 L2:List Int} {c card ctl dm sp cp at_ bs sh:Int} {tp sk dd bl:Bool} {cn:A3 Int} {A C:List Aa} {o:Aa} (ho:o=(⟨id,card,0,ctl,1,false,tp,sk,dd,dm,cn,sp,cp,at_,bl,bs,sh⟩:Aa))
 (k0:ac (B6 l0 (L1++id::L2))) (k1:ac (B6 l1 h1)) (hs:(L1++id::L2).length ≤800) (ht:l0.length≤800) (hN:(L1++id::L2).Nodup)
 (hl:(A++o::C).length ≤800) (h2:2≤(A++o::C).length) (hA: ∀ a∈A,(a.Id==id)=false) (hn: ∀ x∈A++C,x.Id<n):
 Cm (SB (B6 l0 (L1++id::L2)) (B6 l1 h1) (A++o::C) n m q) id 2 c false=some (SB (B6 (n::l0) (L1++L2)) (B6 l1 h1) (A++C++[⟨n,card,0,0,2,false,false,false,false,0,⟨0,0,0⟩,m, -1, -1,false,0,0⟩]) (Al (n+1)) (Al (m+1)) q,n):=by
 subst ho
 have hlen:(A++(⟨id,card,0,ctl,1,false,tp,sk,dd,dm,cn,sp,cp,at_,bl,bs,sh⟩:Aa)::C).length =A.length+C.length+1:=by simp;omega
 unfold Cm jn
 rw [bn (by omega) hA (by simp),SE k0 k1 (by omega)]
 have s1:iter (fun(v:Int)=>A2 ((⟨id,card,0,ctl,1,false,tp,sk,dd,dm,cn,sp,cp,at_,bl,bs,sh⟩:Aa),true) (SB (B6 l0 (L1++id::L2)) (B6 l1 h1) (A++(⟨id,card,0,ctl,1,false,tp,sk,dd,dm,cn,sp,cp,at_,bl,bs,sh⟩:Aa)::C) n m q) v) FU (0:Int)=some (.inr (A.length:Int)):=by
  refine Vh (A:=A) (C:=C) (o:=⟨id,card,0,ctl,1,false,tp,sk,dd,dm,cn,sp,cp,at_,bl,bs,sh⟩) (p:=fun x=>x.Id==id) (by omega) hA (by simp) fun i hi=>?_
  unfold A2
  rw [show (SB (B6 l0 (L1++id::L2)) (B6 l1 h1) (A++(⟨id,card,0,ctl,1,false,tp,sk,dd,dm,cn,sp,cp,at_,bl,bs,sh⟩:Aa)::C) n m q).Objects =A++(⟨id,card,0,ctl,1,false,tp,sk,dd,dm,cn,sp,cp,at_,bl,bs,sh⟩:Aa)::C from rfl,if_pos (by simp at hi ⊢;omega),Bl hi,AA (by omega) (by omega)]
  simp only [Option.bind_some]
  split<;>rfl
 show (iter (fun(v:Int)=>A2 ((⟨id,card,0,ctl,1,false,tp,sk,dd,dm,cn,sp,cp,at_,bl,bs,sh⟩:Aa),true) (SB (B6 l0 (L1++id::L2)) (B6 l1 h1) (A++(⟨id,card,0,ctl,1,false,tp,sk,dd,dm,cn,sp,cp,at_,bl,bs,sh⟩:Aa)::C) n m q) v) FU (0:Int)).bind _=_
 rw [s1]
 show C6 2 c false _ (SB (B6 l0 (L1++id::L2)) (B6 l1 h1) (A++(⟨id,card,0,ctl,1,false,tp,sk,dd,dm,cn,sp,cp,at_,bl,bs,sh⟩:Aa)::C) n m q) (A.length:Int)=_
 rw [bp (by omega)]
 show (B5 (L1++id::L2) id).bind _=_
 rw [Qf (by omega) hN]
 show CN 2 c false ((⟨id,card,0,ctl,1,false,tp,sk,dd,dm,cn,sp,cp,at_,bl,bs,sh⟩:Aa),true) (SB (B6 l0 (L1++id::L2)) (B6 l1 h1) (A++(⟨id,card,0,ctl,1,false,tp,sk,dd,dm,cn,sp,cp,at_,bl,bs,sh⟩:Aa)::C) n m q) (A++C) 0 1 0 false 1 0 n m q 0 (-1) 0 1 0 false 1 0 n m q 0 (-1) 2 [B6 l0 (L1++L2),B6 l1 h1]=_
 rw [Qg,br (by decide) rfl hn (by simp;omega)]
 exact jb (by simp;omega) (by simp;omega) (by show l0.length≤900;omega)
theorem n9 {h0 h1 l0 L1 L2:List Int} {c card ctl dm sp cp at_ bs sh:Int} {tp sk dd bl:Bool} {cn:A3 Int} {A C:List Aa} {o:Aa} (ho:o=(⟨id,card,1,ctl,2,false,tp,sk,dd,dm,cn,sp,cp,at_,bl,bs,sh⟩:Aa))
 (k0:ac (B6 l0 h0)) (k1:ac (B6 (L1++id::L2) h1)) (hs:(L1++id::L2).length ≤800) (ht:h1.length≤800) (hN:(L1++id::L2).Nodup)
 (hl:(A++o::C).length ≤800) (h2:2≤(A++o::C).length) (hA: ∀ a∈A,(a.Id==id)=false) (hn: ∀ x∈A++C,x.Id<n):
 Cm (SB (B6 l0 h0) (B6 (L1++id::L2) h1) (A++o::C) n m q) id 1 c false=some (SB (B6 l0 h0) (B6 (L1++L2) (h1++[n])) (A++C++[⟨n,card,1,1,1,false,false,false,false,0,⟨0,0,0⟩,m, -1, -1,false,0,0⟩]) (Al (n+1)) (Al (m+1)) q,n):=by
 subst ho
 have hlen:(A++(⟨id,card,1,ctl,2,false,tp,sk,dd,dm,cn,sp,cp,at_,bl,bs,sh⟩:Aa)::C).length =A.length+C.length+1:=by simp;omega
 unfold Cm jn
 rw [bn (by omega) hA (by simp),SE k0 k1 (by omega)]
 have s1:iter (fun(v:Int)=>A2 ((⟨id,card,1,ctl,2,false,tp,sk,dd,dm,cn,sp,cp,at_,bl,bs,sh⟩:Aa),true) (SB (B6 l0 h0) (B6 (L1++id::L2) h1) (A++(⟨id,card,1,ctl,2,false,tp,sk,dd,dm,cn,sp,cp,at_,bl,bs,sh⟩:Aa)::C) n m q) v) FU (0:Int)=some (.inr (A.length:Int)):=by
  refine Vh (A:=A) (C:=C) (o:=⟨id,card,1,ctl,2,false,tp,sk,dd,dm,cn,sp,cp,at_,bl,bs,sh⟩) (p:=fun x=>x.Id==id) (by omega) hA (by simp) fun i hi=>?_
  unfold A2
  rw [show (SB (B6 l0 h0) (B6 (L1++id::L2) h1) (A++(⟨id,card,1,ctl,2,false,tp,sk,dd,dm,cn,sp,cp,at_,bl,bs,sh⟩:Aa)::C) n m q).Objects =A++(⟨id,card,1,ctl,2,false,tp,sk,dd,dm,cn,sp,cp,at_,bl,bs,sh⟩:Aa)::C from rfl,if_pos (by simp at hi ⊢;omega),Bl hi,AA (by omega) (by omega)]
  simp only [Option.bind_some]
  split<;>rfl
 show (iter (fun(v:Int)=>A2 ((⟨id,card,1,ctl,2,false,tp,sk,dd,dm,cn,sp,cp,at_,bl,bs,sh⟩:Aa),true) (SB (B6 l0 h0) (B6 (L1++id::L2) h1) (A++(⟨id,card,1,ctl,2,false,tp,sk,dd,dm,cn,sp,cp,at_,bl,bs,sh⟩:Aa)::C) n m q) v) FU (0:Int)).bind _=_
 rw [s1]
 show C6 1 c false _ (SB (B6 l0 h0) (B6 (L1++id::L2) h1) (A++(⟨id,card,1,ctl,2,false,tp,sk,dd,dm,cn,sp,cp,at_,bl,bs,sh⟩:Aa)::C) n m q) (A.length:Int)=_
 rw [bp (by omega)]
 show (B5 (L1++id::L2) id).bind _=_
 rw [Qf (by omega) hN]
 show CN 1 c false ((⟨id,card,1,ctl,2,false,tp,sk,dd,dm,cn,sp,cp,at_,bl,bs,sh⟩:Aa),true) (SB (B6 l0 h0) (B6 (L1++id::L2) h1) (A++(⟨id,card,1,ctl,2,false,tp,sk,dd,dm,cn,sp,cp,at_,bl,bs,sh⟩:Aa)::C) n m q) (A++C) 0 1 0 false 1 0 n m q 0 (-1) 0 1 0 false 1 0 n m q 0 (-1) 2 [B6 l0 h0,B6 (L1++L2) h1]=_
 rw [Qg,br (by decide) rfl hn (by simp;omega)]
 exact jc (by simp;omega) (by simp;omega) (by show h1.length≤900;omega)
theorem oa {h0 l0 l1 L1 L2:List Int} {c card ctl dm sp cp at_ bs sh:Int} {tp sk dd bl:Bool} {cn:A3 Int} {A C:List Aa} {o:Aa} (ho:o=(⟨id,card,1,ctl,1,false,tp,sk,dd,dm,cn,sp,cp,at_,bl,bs,sh⟩:Aa))
 (k0:ac (B6 l0 h0)) (k1:ac (B6 l1 (L1++id::L2))) (hs:(L1++id::L2).length ≤800) (ht:l1.length≤800) (hN:(L1++id::L2).Nodup)
 (hl:(A++o::C).length ≤800) (h2:2≤(A++o::C).length) (hA: ∀ a∈A,(a.Id==id)=false) (hn: ∀ x∈A++C,x.Id<n):
 Cm (SB (B6 l0 h0) (B6 l1 (L1++id::L2)) (A++o::C) n m q) id 2 c false=some (SB (B6 l0 h0) (B6 (n::l1) (L1++L2)) (A++C++[⟨n,card,1,1,2,false,false,false,false,0,⟨0,0,0⟩,m, -1, -1,false,0,0⟩]) (Al (n+1)) (Al (m+1)) q,n):=by
 subst ho
 have hlen:(A++(⟨id,card,1,ctl,1,false,tp,sk,dd,dm,cn,sp,cp,at_,bl,bs,sh⟩:Aa)::C).length =A.length+C.length+1:=by simp;omega
 unfold Cm jn
 rw [bn (by omega) hA (by simp),SE k0 k1 (by omega)]
 have s1:iter (fun(v:Int)=>A2 ((⟨id,card,1,ctl,1,false,tp,sk,dd,dm,cn,sp,cp,at_,bl,bs,sh⟩:Aa),true) (SB (B6 l0 h0) (B6 l1 (L1++id::L2)) (A++(⟨id,card,1,ctl,1,false,tp,sk,dd,dm,cn,sp,cp,at_,bl,bs,sh⟩:Aa)::C) n m q) v) FU (0:Int)=some (.inr (A.length:Int)):=by
  refine Vh (A:=A) (C:=C) (o:=⟨id,card,1,ctl,1,false,tp,sk,dd,dm,cn,sp,cp,at_,bl,bs,sh⟩) (p:=fun x=>x.Id==id) (by omega) hA (by simp) fun i hi=>?_
  unfold A2
  rw [show (SB (B6 l0 h0) (B6 l1 (L1++id::L2)) (A++(⟨id,card,1,ctl,1,false,tp,sk,dd,dm,cn,sp,cp,at_,bl,bs,sh⟩:Aa)::C) n m q).Objects =A++(⟨id,card,1,ctl,1,false,tp,sk,dd,dm,cn,sp,cp,at_,bl,bs,sh⟩:Aa)::C from rfl,if_pos (by simp at hi ⊢;omega),Bl hi,AA (by omega) (by omega)]
  simp only [Option.bind_some]
  split<;>rfl
 show (iter (fun(v:Int)=>A2 ((⟨id,card,1,ctl,1,false,tp,sk,dd,dm,cn,sp,cp,at_,bl,bs,sh⟩:Aa),true) (SB (B6 l0 h0) (B6 l1 (L1++id::L2)) (A++(⟨id,card,1,ctl,1,false,tp,sk,dd,dm,cn,sp,cp,at_,bl,bs,sh⟩:Aa)::C) n m q) v) FU (0:Int)).bind _=_
 rw [s1]
 show C6 2 c false _ (SB (B6 l0 h0) (B6 l1 (L1++id::L2)) (A++(⟨id,card,1,ctl,1,false,tp,sk,dd,dm,cn,sp,cp,at_,bl,bs,sh⟩:Aa)::C) n m q) (A.length:Int)=_
 rw [bp (by omega)]
 show (B5 (L1++id::L2) id).bind _=_
 rw [Qf (by omega) hN]
 show CN 2 c false ((⟨id,card,1,ctl,1,false,tp,sk,dd,dm,cn,sp,cp,at_,bl,bs,sh⟩:Aa),true) (SB (B6 l0 h0) (B6 l1 (L1++id::L2)) (A++(⟨id,card,1,ctl,1,false,tp,sk,dd,dm,cn,sp,cp,at_,bl,bs,sh⟩:Aa)::C) n m q) (A++C) 0 1 0 false 1 0 n m q 0 (-1) 0 1 0 false 1 0 n m q 0 (-1) 2 [B6 l0 h0,B6 l1 (L1++L2)]=_
 rw [Qg,br (by decide) rfl hn (by simp;omega)]
 exact jd (by simp;omega) (by simp;omega) (by show l1.length≤900;omega)
end
end Go.PL
