/- The plain law of BeginHands: the game that is begun. -/
import Derived.Test.YtfmknfnfpeopeaaGreatDoorPlBhO
namespace Go.PL
open Go
set_option linter.all false
set_option maxRecDepth 100000
def EV (k:Nat) (s:Int):Ct:=⟨[⟨LY,false,⟨0,0,⟨0,0,0,0,0⟩⟩,0,⟨0,32,[]⟩,0,0,0,[]⟩],[List.replicate k 0,List.replicate k 0],s,1⟩
def fR (id w:Int):Aa:=⟨id,0,w,w,2,false,false,false,false,0,⟨0,0,0⟩,id, -1, -1,false,0,0⟩
def D4 (a k:Nat):List Int:=(List.range k).map fun i=>((a+i:Nat):Int)
def C7 (a k:Nat) (w:Int):List Aa:=(List.range k).map fun i=>fR ((a+i:Nat):Int) w
abbrev NT:=List Int×List Int×List AW×List AC×List B4×Int×Int×Int×Bool×Int×Int×Int×Int×Int×List Int×Int×Int×List Aa×Int×List Ar
def PU (n q:Int) (os:List Aa) (l0 l1:List Int):NT:=([],[],[],[],[],0,1,0,false,1,0,n,n,q,[],0, -1,os,2,[B6 l0 [],B6 l1 []])
def l4 (c:Ct) (v:Int×NT):=FS c v.1 v.2.1 v.2.2.1 v.2.2.2.1 v.2.2.2.2.1 v.2.2.2.2.2.1 v.2.2.2.2.2.2.1 v.2.2.2.2.2.2.2.1 v.2.2.2.2.2.2.2.2.1 v.2.2.2.2.2.2.2.2.2.1 v.2.2.2.2.2.2.2.2.2.2.1 v.2.2.2.2.2.2.2.2.2.2.2.1 v.2.2.2.2.2.2.2.2.2.2.2.2.1 v.2.2.2.2.2.2.2.2.2.2.2.2.2.1 v.2.2.2.2.2.2.2.2.2.2.2.2.2.2.1 v.2.2.2.2.2.2.2.2.2.2.2.2.2.2.2.1 v.2.2.2.2.2.2.2.2.2.2.2.2.2.2.2.2.1 v.2.2.2.2.2.2.2.2.2.2.2.2.2.2.2.2.2.1 v.2.2.2.2.2.2.2.2.2.2.2.2.2.2.2.2.2.2.1 v.2.2.2.2.2.2.2.2.2.2.2.2.2.2.2.2.2.2.2.1 v.2.2.2.2.2.2.2.2.2.2.2.2.2.2.2.2.2.2.2.2
def PV (w:Int) (r:List Int×Int) (v:Int×NT):=CY w r v.1 v.2.1 v.2.2.1 v.2.2.2.1 v.2.2.2.2.1 v.2.2.2.2.2.1 v.2.2.2.2.2.2.1 v.2.2.2.2.2.2.2.1 v.2.2.2.2.2.2.2.2.1 v.2.2.2.2.2.2.2.2.2.1 v.2.2.2.2.2.2.2.2.2.2.1 v.2.2.2.2.2.2.2.2.2.2.2.1 v.2.2.2.2.2.2.2.2.2.2.2.2.1 v.2.2.2.2.2.2.2.2.2.2.2.2.2.1 v.2.2.2.2.2.2.2.2.2.2.2.2.2.2.1 v.2.2.2.2.2.2.2.2.2.2.2.2.2.2.2.1 v.2.2.2.2.2.2.2.2.2.2.2.2.2.2.2.2.1 v.2.2.2.2.2.2.2.2.2.2.2.2.2.2.2.2.2.1 v.2.2.2.2.2.2.2.2.2.2.2.2.2.2.2.2.2.2.1 v.2.2.2.2.2.2.2.2.2.2.2.2.2.2.2.2.2.2.2.1 v.2.2.2.2.2.2.2.2.2.2.2.2.2.2.2.2.2.2.2.2
theorem lM {k i:Nat} {n q q1:Int} {os:List Aa} {l0 l1:List Int} (hi:i<k) (hk:k≤900) (ho:os.length≤900) (hl:l0.length≤900) (h0:0≤n) (h1:n≤1000):
 PV 0 (List.replicate k 0,q1) ((i:Int),PU n q os l0 l1)=some (.inl (((i+1:Nat):Int),PU (n+1) q (os++[fR n 0]) (l0++[n]) l1)):=by
 unfold PV CY
 dsimp only [PU]
 rw [if_pos (by simp;omega),Bl (by simp;exact hi)]
 simp only [Option.bind_some]
 rw [List.getElem_replicate]
 show (EW 128 os [fR n 0]).bind _=_
 rw [LW (by simp;omega) (by omega)]
 show (EW 8 l0 [n]).bind _=_
 rw [LW (by simp;omega) (by omega)]
 rw [AA (by omega) (by omega),AA (by omega) (by omega)]
 rfl
theorem lN {k i:Nat} {n q q1:Int} {os:List Aa} {l0 l1:List Int} (hi:i<k) (hk:k≤900) (ho:os.length≤900) (hl:l1.length≤900) (h0:0≤n) (h1:n≤1000):
 PV 1 (List.replicate k 0,q1) ((i:Int),PU n q os l0 l1)=some (.inl (((i+1:Nat):Int),PU (n+1) q (os++[fR n 1]) l0 (l1++[n]))):=by
 unfold PV CY
 dsimp only [PU]
 rw [if_pos (by simp;omega),Bl (by simp;exact hi)]
 simp only [Option.bind_some]
 rw [List.getElem_replicate]
 show (EW 128 os [fR n 1]).bind _=_
 rw [LW (by simp;omega) (by omega)]
 show (EW 8 l1 [n]).bind _=_
 rw [LW (by simp;omega) (by omega)]
 rw [AA (by omega) (by omega),AA (by omega) (by omega)]
 rfl
theorem Vj (a k:Nat) (w:Int):C7 a (k+1) w=C7 a k w++[fR ((a+k:Nat):Int) w]:=by
 unfold C7;rw [List.range_succ,List.map_append];rfl
theorem Ob (a k:Nat):D4 a (k+1)=D4 a k++[((a+k:Nat):Int)]:=by
 unfold D4;rw [List.range_succ,List.map_append];rfl
theorem Kr (a k:Nat) (w:Int):(C7 a k w).length =k:=by simp [C7]
theorem M5 (a k:Nat):(D4 a k).length =k:=by simp [D4]
theorem mR {a k:Nat} {q q1:Int} {os:List Aa} {l1:List Int} (hk:k≤12) (ha:a≤30) (ho:os.length≤100):
 iter (fun v=>PV 0 (List.replicate k 0,q1) v) FU (0,PU (a:Int) q os [] l1)=some (PU ((a+k:Nat):Int) q (os++C7 a k 0) (D4 a k) l1):=by
 refine GK (fun i=>((i:Int),PU ((a+i:Nat):Int) q (os++C7 a i 0) (D4 a i) l1)) k (by omega) (fun i hi=>?_) ?_ ?_
 ·rw [lM hi (by omega) (by simp [Kr];omega) (by rw [M5];omega) (by omega) (by omega),Vj,Ob,List.append_assoc]
  congr 4
 ·show PV 0 _ ((k:Int),_)=_
  unfold PV CY
  dsimp only [PU]
  rw [if_neg (by simp)]
 ·simp [C7,D4]
theorem mS {a k:Nat} {q q1:Int} {os:List Aa} {l0:List Int} (hk:k≤12) (ha:a≤30) (ho:os.length≤100):
 iter (fun v=>PV 1 (List.replicate k 0,q1) v) FU (0,PU (a:Int) q os l0 [])=some (PU ((a+k:Nat):Int) q (os++C7 a k 1) l0 (D4 a k)):=by
 refine GK (fun i=>((i:Int),PU ((a+i:Nat):Int) q (os++C7 a i 1) l0 (D4 a i))) k (by omega) (fun i hi=>?_) ?_ ?_
 ·rw [lN hi (by omega) (by simp [Kr];omega) (by rw [M5];omega) (by omega) (by omega),Vj,Ob,List.append_assoc]
  congr 4
 ·show PV 1 _ ((k:Int),_)=_
  unfold PV CY
  dsimp only [PU]
  rw [if_neg (by simp)]
 ·simp [C7,D4]
theorem mT {k:Nat} {s q q1:Int} (hk:k≤12) (h:CH q (List.replicate k 0)=some (List.replicate k 0,q1)):l4 (EV k s) (0,PU 1 q [] [] [])=some (.inl (1,PU ((1+k:Nat):Int) q1 (C7 1 k 0) (D4 1 k) [])):=by
 unfold l4 FS jn
 dsimp only [PU]
 rw [if_pos (by rfl),show AN (EV k s).Decks 0=some (List.replicate k 0)from Bl (l:=(EV k s).Decks) (k:=0) (by show 0<2;omega)]
 simp only [Option.bind_some]
 rw [h]
 show (iter (fun v=>PV 0 (List.replicate k 0,q1) v) FU (0,PU ((1:Nat):Int) q1 [] [] [])).bind _=_
 rw [mR hk (by omega) (by simp),List.nil_append]
 rfl
theorem mU {k:Nat} {s q q1:Int} (hk:k≤12) (h:CH q (List.replicate k 0)=some (List.replicate k 0,q1)):l4 (EV k s) (1,PU ((1+k:Nat):Int) q (C7 1 k 0) (D4 1 k) [])=some (.inl (2,PU ((1+k+k:Nat):Int) q1 (C7 1 k 0++C7 (1+k) k 1) (D4 1 k) (D4 (1+k) k))):=by
 unfold l4 FS jn
 dsimp only [PU]
 rw [if_pos (by rfl),show AN (EV k s).Decks 1=some (List.replicate k 0)from Bl (l:=(EV k s).Decks) (k:=1) (by show 1<2;omega)]
 simp only [Option.bind_some]
 rw [h]
 show (iter (fun v=>PV 1 (List.replicate k 0,q1) v) FU (0,PU ((1+k:Nat):Int) q1 (C7 1 k 0) (D4 1 k) [])).bind _=_
 rw [mS hk (by omega) (by rw [Kr];omega)]
 rfl
theorem jK {k:Nat} (hk:k≤12) (q:Int): ∃ q1,CH q (List.replicate k 0)=some (List.replicate k 0,q1):=by
 obtain⟨q1,l2,h1,h2⟩:=mQ (l:=List.replicate k (0:Int)) (s:=q) (by simp;omega)
 rw [List.perm_replicate.1 h2]at h1
 exact⟨q1,h1⟩
theorem lO {k:Nat} (hk:k≤12) (s:Int):If (EV k s)=some 0:=by
 have hc:FQ (EV k s).Cards =some (-1,0):=by
  show FQ [⟨LY,false,⟨0,0,⟨0,0,0,0,0⟩⟩,0,⟨0,32,[]⟩,0,0,0,[]⟩]=_
  kernel_rfl
 have i0:AN (EV k s).Decks 0=some (List.replicate k 0):=Bl (l:=(EV k s).Decks) (k:=0) (by show 0<2;omega)
 have i1:AN (EV k s).Decks 1=some (List.replicate k 0):=Bl (l:=(EV k s).Decks) (k:=1) (by show 1<2;omega)
 have e1: ∀ p:Int,AN (EV k s).Decks p=some (List.replicate k 0)→decide (p<((EV k s).Decks.length :Int))=true→Dd (EV k s) p=some (.inl (Al (p+1))):=fun p hp hd=>by
  unfold Dd
  rw [if_pos hd,hp]
  simp only [Option.bind_some]
  rw [if_neg (by simp;omega)]
 have l1:iter (fun(v:Int)=>Dd (EV k s) v) FU (0:Int)=some (.inl ()):=Vg (s1:=1) (s2:=2) (e1 0 i0 rfl) (e1 1 i1 rfl) rfl
 have in0:iter (fun(v:Int)=>Ep (EV k s) (List.replicate k 0) v) FU (0:Int)=some (.inl ()):=by
  refine GK (fun i=>(i:Int)) k (by omega) (fun i hi=>?_) ?_ rfl
  ·unfold Ep
   rw [if_pos (by simp;exact hi),Bl (by simp;exact hi)]
   simp only [Option.bind_some]
   rw [List.getElem_replicate,AA (by omega) (by omega)]
   rfl
  ·unfold Ep
   rw [if_neg (by simp)]
 have e2: ∀ p:Int,AN (EV k s).Decks p=some (List.replicate k 0)→decide (p<((EV k s).Decks.length :Int))=true→Dc (EV k s) p=some (.inl (Al (p+1))):=fun p hp hd=>by
  unfold Dc jn
  rw [if_pos hd,hp]
  simp only [Option.bind_some]
  rw [in0]
  rfl
 have l2:iter (fun(v:Int)=>Dc (EV k s) v) FU (0:Int)=some (.inl ()):=Vg (s1:=1) (s2:=2) (e2 0 i0 rfl) (e2 1 i1 rfl) rfl
 unfold If
 rw [hc]
 show (iter (fun(v:Int)=>Dd (EV k s) v) FU (0:Int)).bind _=_
 rw [l1]
 show (iter (fun(v:Int)=>Dc (EV k s) v) FU (0:Int)).bind _=_
 rw [l2]
 rfl
theorem lP {k:Nat} (hk:k≤12) (s:Int):Gb (k:Int) s=some (EV k s):=by
 have l1:iter (fun(v:Int×Int×(List (List (Int))))=>Cg (k:Int) v.1 v.2.1 v.2.2) FU (0,2,[[],[]])=some (2,[List.replicate k 0,List.replicate k 0]):=by
  refine GK (fun i=>((i:Int),2,[List.replicate i 0,List.replicate i 0])) k (by omega) (fun i hi=>?_) ?_ rfl
  ·show Cg (k:Int) (i:Int) 2 [List.replicate i 0,List.replicate i 0]=_
   unfold Cg
   rw [if_pos (by simp;exact hi)]
   have a1:EW 8 (List.replicate i (0:Int)) [0]=some (List.replicate (i+1) 0):=by
    rw [LW (by simp;omega) (by omega),List.replicate_succ']
   show (EW 8 (List.replicate i (0:Int)) [0]).bind _=_
   rw [a1]
   show (EW 8 (List.replicate i (0:Int)) [0]).bind _=_
   rw [a1,AA (by omega) (by omega)]
   rfl
  ·show Cg (k:Int) (k:Int) 2 _=_
   unfold Cg
   rw [if_neg (by simp)]
 show (iter (fun(v:Int×Int×(List (List (Int))))=>Cg (k:Int) v.1 v.2.1 v.2.2) FU (0,2,[[],[]])).bind _=_
 rw [l1]
 rfl
theorem od {k:Nat} (hk:k≤12) (s:Int): ∃ q,FK (EV k s)=some (ST true (D4 (1+k) k) [] (D4 1 k) [] (C7 1 k 0++C7 (1+k) k 1) ((1+k+k:Nat):Int) ((1+k+k:Nat):Int) q,0):=by
 obtain⟨q1,h1⟩:=jK hk s
 obtain⟨q2,h2⟩:=jK hk q1
 refine⟨q2,?_⟩
 unfold FK
 rw [lO hk]
 have hs:KP ((EV k s).Decks.length :Int) (EV k s).First (EV k s).Seed =some (SB (B6 [] []) (B6 [] []) [] 1 1 s):=by
  show KP 2 1 s=_
  kernel_rfl
 have l1:iter (fun v=>l4 (EV k s) v) FU (0,PU 1 s [] [] [])=some (PU ((1+k+k:Nat):Int) q2 (C7 1 k 0++C7 (1+k) k 1) (D4 1 k) (D4 (1+k) k)):=Vg (mT hk h1) (mU hk h2) rfl
 simp only [Option.bind_some]
 rw [if_neg (by simp),hs]
 show (iter (fun v=>l4 (EV k s) v) FU (0,PU 1 s [] [] [])).bind _=_
 rw [l1]
 rfl
theorem oD:(k:Nat)→k≤12→Iv true (D4 (1+k) k) [] (D4 1 k) [] (C7 1 k 0++C7 (1+k) k 1) ((1+k+k:Nat):Int) k:=by
 intro k hk
 have fo: ∀ (a n:Nat) (w:Int) (A B:List Aa) (j:Nat),j<n→(∀ x∈A,x.Id ≠ ((a+j:Nat):Int))→Fo (A++C7 a n w++B) ((a+j:Nat):Int) w 2:=fun a n w A B j hj hA=>by
  refine⟨fR ((a+j:Nat):Int) w,?_,rfl,rfl,rfl⟩
  rw [List.find?_append,List.find?_append,List.find?_eq_none.2 (fun x hx=>by simpa using hA x hx)]
  have:(C7 a n w).find? (fun o=>o.Id==((a+j:Nat):Int))=some (fR ((a+j:Nat):Int) w):=by
   rw [List.find?_eq_some_iff_append]
   refine⟨by simp [fR],C7 a j w,(List.range (n - j - 1)).map (fun i=>fR ((a+(j+1+i):Nat):Int) w),?_,fun x hx=>?_⟩
   ·unfold C7
    have e:n=j+(1+(n - j - 1)):=by omega
    conv=>lhs;rw [e]
    rw [List.range_add,List.map_append,List.range_add,List.map_append,List.map_append,List.map_map,List.map_map]
    simp [Function.comp_def,Nat.add_assoc]
   ·obtain⟨i,hi,rfl⟩:=List.mem_map.1 hx
    have:=List.mem_range.1 hi
    simp [fR]
    omega
  rw [this]
  rfl
 have hid: ∀ (a n:Nat) (w:Int) x,x∈C7 a n w→(a:Int)≤x.Id∧x.Id<((a+n:Nat):Int):=fun a n w x hx=>by
  obtain⟨i,hi,rfl⟩:=List.mem_map.1 hx
  have:=List.mem_range.1 hi
  show (a:Int)≤((a+i:Nat):Int)∧((a+i:Nat):Int)<_
  omega
 have nd: ∀ a n,(D4 a n).Nodup :=fun a n=>by
  induction n with
  | zero=>simp [D4]
  | succ n ih=>
    rw [Ob]
    refine List.nodup_append.2 ⟨ih,by simp,fun x hx y hy=>?_⟩
    obtain⟨i,hi,rfl⟩:=List.mem_map.1 hx
    have:=List.mem_range.1 hi
    have:y=((a+n:Nat):Int):=by simpa using hy
    omega
 refine⟨fun id h=>?_,fun id h=>(by cases h),fun id h=>?_,fun id h=>(by cases h),nd _ _,List.nodup_nil,nd _ _,List.nodup_nil,by rw [M5];simp,by rw [M5];simp,fun o ho=>?_,by rw [List.length_append,Kr,Kr];omega⟩
 ·obtain⟨j,hj,rfl⟩:=List.mem_map.1 h
  have:=fo (1+k) k 1 (C7 1 k 0) [] j (List.mem_range.1 hj) (fun x hx=>by have:=hid 1 k 0 x hx;omega)
  rw [List.append_nil]at this
  exact this
 ·obtain⟨j,hj,rfl⟩:=List.mem_map.1 h
  have:=fo 1 k 0 [] (C7 (1+k) k 1) j (List.mem_range.1 hj) (fun x hx=>by cases hx)
  rw [List.nil_append]at this
  exact this
 ·rcases List.mem_append.1 ho with q | q
  ·have:=hid _ _ _ o q;omega
  ·have:=hid _ _ _ o q;omega
end Go.PL
