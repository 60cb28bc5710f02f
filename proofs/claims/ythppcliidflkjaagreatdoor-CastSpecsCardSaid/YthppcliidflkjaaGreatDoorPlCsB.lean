/- Functions of the program, as partial functions in Lean, with proofs. -/
import Derived.Test.YthppcliidflkjaaGreatDoorPlPftoPlYc
import Derived.Test.YthppcliidflkjaaGreatDoorPlPftoPlYc
import Derived.Test.YthppcliidflkjaaGreatDoorTqtoKq
import Derived.Test.YthppcliidflkjaaGreatDoorTqtoKq
import Derived.Test.YthppcliidflkjaaGreatDoorPlPftoPlYc
import Derived.Test.YthppcliidflkjaaGreatDoorProg
import Derived.Test.YthppcliidflkjaaGreatDoorPlShelf
import Derived.Test.YthppcliidflkjaaGreatDoorTqtoKq
import Derived.Test.YthppcliidflkjaaGreatDoorPlPftoPlYc
import Derived.Test.YthppcliidflkjaaGreatDoorPlCsR
namespace Go.PL
open Go Go.RowKit Go.Proofs
set_option maxRecDepth 100000
set_option linter.all false
set_option maxHeartbeats 4000000
abbrev Aa:Int→C:=C.int .i64
theorem IJ:Tryz.prog.follows .mixedOrders =true:=by kernel_rfl
def UB:List UInt8:=[112,108,117,115]
def UC:List UInt8:=[109,105,110,117,115]
def UD:List UInt8:=[99,104,97,114,103,101]
def Qv:List (List UInt8):=[UB,UC,UD]
def Yu:List UInt8:=[97,109,98,101,114]
def Yv:List UInt8:=[99,111,98,97,108,116]
def Yw:List UInt8:=[106,101,116]
def Yx:List UInt8:=[114,117,98,121]
def Yy:List UInt8:=[101,109,101,114,97,108,100]
def WX:List (List UInt8):=[Yu,Yv,Yw,Yx,Yy]
def GS (w:World) (g:Nat) (tab:List (List UInt8)):Prop:= ∃ T fz,w.heap[g]? =some (.cells (tab.map fun s=>Value.string ⟨s.toArray⟩).toArray T fz)
def I0 (w:World):Prop:=Lib.TabIs Tryz.prog w "internal/strconv.uint64pow10" .u64 Lib.pow10Tab∧w.ShapedOpen Tryz.prog∧GS w 0 Qv∧GS w 1 WX
theorem GS.stable {w w':World} {g:Nat} {tab:List (List UInt8)} (h2: ∀ b,b<w.heap.size→w'.heap[b]? =w.heap[b]?) (h:GS w g tab):GS w' g tab:=by
 obtain⟨T,fz,h⟩:=h
 by_cases hlt:g<w.heap.size
 ·exact⟨T,fz,by rw [h2 g hlt];exact h⟩
 ·rw [Array.getElem?_eq_none (by omega)]at h;cases h
theorem Lu {P:Program} {w w':World} (h:w.ShapedOpen P) (h2: ∀ b,b<w.heap.size→w'.heap[b]? =w.heap[b]?):w'.ShapedOpen P:=by
 have lt_of_some: ∀ {i:Nat} {o:Obj},w.heap[i]? =some o→i<w.heap.size:=by
  intro i o ho
  rcases Nat.lt_or_ge i w.heap.size with h' | h'
  ·exact h'
  ·simp [Array.getElem?_eq_none h']at ho
 refine⟨fun g zero t hg hz=>?_,fun k hk1 hk2=>?_⟩
 ·obtain⟨cs,h1,h3,h4⟩:=h.1 g zero t hg hz
  exact⟨cs,(h2 g (lt_of_some h1)).trans h1,h3,fun hb=>Row.ok_of_shape (fun b x hx=>by
   unfold World.shape? at hx ⊢
   by_cases hlt:b<w.heap.size
   ·rw [h2 b hlt];exact hx
   ·rw [Array.getElem?_eq_none (by omega)]at hx;cases hx) (h4 hb)⟩
 ·obtain⟨o,o₀,h1,h3,h4⟩:=h.2 k hk1 hk2
  exact⟨o,o₀,(h2 k (lt_of_some h1)).trans h1,h3,h4⟩
theorem Yz {P:Program} {w w':World} {n:String} {cs:Array Value} (h2: ∀ b,b<w.heap.size→w'.heap[b]? =w.heap[b]?) (h:w.var? P n=some cs):w'.var? P n=some cs:=by
 unfold World.var? at h ⊢
 cases hg:P.globalNamed n with
 | none=>rw [hg]at h;cases h
 | some g=>
   rw [hg]at h
   simp only [Option.bind_some]at h ⊢
   by_cases hlt:g<w.heap.size
   ·rw [h2 g hlt];exact h
   ·rw [Array.getElem?_eq_none (by omega)]at h;cases h
theorem DQ:Hz I0:=fun _ _ h _ h2=>⟨Yz h2 h.1,Lu h.2.1 h2,GS.stable h2 h.2.2.1,GS.stable h2 h.2.2.2⟩
def YA:Option Bool:=some true
theorem ZJ {r:Bool} (h:YA=some r):Bp Tryz.prog I0 4 [] (· =vB r):=by
 injection h with h;subst h
 exact mj DQ (by kernel_rfl) (fun f g h=>by simp at h) (fun g cs h=>by simp at h) (args:=[]) rfl ml (by kernel_rfl)
structure A5 (α:Type) where
 x0:α
 x1:α
 x2:α
 x3:α
 x4:α
 deriving DecidableEq,Inhabited
def A5.l {α:Type} (a:A5 α):List α:=[a.x0,a.x1,a.x2,a.x3,a.x4]
def qg {α:Type} (e:α→List C) (a:A5 α):List C:=a.l.flatMap e
structure A6 (α:Type) where
 x0:α
 x1:α
 x2:α
 x3:α
 x4:α
 x5:α
 deriving DecidableEq,Inhabited
def A6.l {α:Type} (a:A6 α):List α:=[a.x0,a.x1,a.x2,a.x3,a.x4,a.x5]
def qh {α:Type} (e:α→List C) (a:A6 α):List C:=a.l.flatMap e
structure Eg where
 Generic:Int
 X:Int
 Color:A5 (Int)
 deriving DecidableEq,Inhabited
def BC (x:Eg):List C:=[Aa (x.Generic),Aa (x.X),Aa ((x.Color).x0),Aa ((x.Color).x1),Aa ((x.Color).x2),Aa ((x.Color).x3),Aa ((x.Color).x4)]
structure Qw where
 Super:Int
 Types:Int
 Subs:List (List UInt8)
 deriving DecidableEq,Inhabited
def Lv (x:Qw):List C:=[Aa (x.Super),Aa (x.Types), .sl (x.Subs).length ((x.Subs).flatMap (eS))]
structure Bw where
 Kind:Int
 N:Int
 deriving DecidableEq,Inhabited
def bU (x:Bw):List C:=[Aa (x.Kind),Aa (x.N)]
structure BW where
 Zone:Int
 Who:Int
 Self:Int
 Types:Int
 NotTypes:Int
 Colors:Int
 NotColors:Int
 Sub:List UInt8
 Keys:Int
 Tap:Int
 Power:Bw
 Tough:Bw
 Value:Bw
 deriving DecidableEq,Inhabited
def Cw (x:BW):List C:=[Aa (x.Zone),Aa (x.Who),Aa (x.Self),Aa (x.Types),Aa (x.NotTypes),Aa (x.Colors),Aa (x.NotColors), .str (x.Sub),Aa (x.Keys),Aa (x.Tap),Aa ((x.Power).Kind),Aa ((x.Power).N),Aa ((x.Tough).Kind),Aa ((x.Tough).N),Aa ((x.Value).Kind),Aa ((x.Value).N)]
structure Lw where
 Kind:Int
 N:Int
 M:Int
 Sub:List UInt8
 Filter:BW
 deriving DecidableEq,Inhabited
def Bz (x:Lw):List C:=[Aa (x.Kind),Aa (x.N),Aa (x.M), .str (x.Sub)]++(Cw x.Filter)
theorem ZK (x:Lw):(Bz x).length =20:=rfl
structure MA where
 Mana:Eg
 Tap:Bool
 Sacrifice:Bool
 Life:Int
 deriving DecidableEq,Inhabited
def SQ (x:MA):List C:=BC x.Mana++([.bool (x.Tap), .bool (x.Sacrifice),Aa (x.Life)])
structure Hk where
 When:Int
 Who:Int
 Filter:BW
 deriving DecidableEq,Inhabited
def NB (x:Hk):List C:=[Aa (x.When),Aa (x.Who)]++(Cw x.Filter)
structure BT where
 Player:Bool
 Object:Bool
 Filter:BW
 deriving DecidableEq,Inhabited
def Aq (x:BT):List C:=[.bool (x.Player), .bool (x.Object)]++(Cw x.Filter)
theorem Lx (x:BT):(Aq x).length =18:=rfl
structure i6 where
 Kind:Int
 N:Int
 Filter:BW
 deriving DecidableEq,Inhabited
def ZL (x:i6):List C:=[Aa (x.Kind),Aa (x.N)]++(Cw x.Filter)
structure N9 where
 Kind:Int
 N:Int
 Counter:Int
 Filter:BW
 deriving DecidableEq,Inhabited
def Qx (x:N9):List C:=[Aa (x.Kind),Aa (x.N),Aa (x.Counter)]++(Cw x.Filter)
structure Bc where
 Op:Int
 Ref:i6
 Amount:N9
 Counter:Int
 Zone:Int
 Card:List UInt8
 Filter:BW
 Pool:A6 (Int)
 Mods:List (Lw)
 deriving DecidableEq,Inhabited
def AW (x:Bc):List C:=[Aa (x.Op)]++(ZL x.Ref++(Qx x.Amount++([Aa (x.Counter),Aa (x.Zone), .str (x.Card)]++(Cw x.Filter++([Aa ((x.Pool).x0),Aa ((x.Pool).x1),Aa ((x.Pool).x2),Aa ((x.Pool).x3),Aa ((x.Pool).x4),Aa ((x.Pool).x5), .sl (x.Mods).length ((x.Mods).flatMap (Bz))])))))
theorem YB (x:Bc):(AW x).length =64:=rfl
structure Hm where
 On:Int
 Who:Int
 Filter:BW
 Do:Int
 N:Int
 Zone:Int
 Counter:Int
 deriving DecidableEq,Inhabited
def NC (x:Hm):List C:=[Aa (x.On),Aa (x.Who)]++(Cw x.Filter++([Aa (x.Do),Aa (x.N),Aa (x.Zone),Aa (x.Counter)]))
structure Ar where
 Kind:Int
 Filter:BW
 Mods:List (Lw)
 Price:MA
 Slow:Bool
 Trigger:Hk
 May:Bool
 Specs:List (BT)
 Effects:List (Bc)
 Replace:Hm
 deriving DecidableEq,Inhabited
def Ao (x:Ar):List C:=[Aa (x.Kind)]++(Cw x.Filter++([.sl (x.Mods).length ((x.Mods).flatMap (Bz))]++(SQ x.Price++([.bool (x.Slow)]++(NB x.Trigger++([.bool (x.May), .sl (x.Specs).length ((x.Specs).flatMap (Aq)), .sl (x.Effects).length ((x.Effects).flatMap (AW))]++(NC x.Replace)))))))
theorem WY (x:Ar):(Ao x).length =72:=rfl
structure Gb where
 Name:List UInt8
 Token:Bool
 Cost:Eg
 Color:Int
 Line:Qw
 Power:Int
 Tough:Int
 Keys:Int
 Abilities:List (Ar)
 deriving DecidableEq,Inhabited
def D8 (x:Gb):List C:=[.str (x.Name), .bool (x.Token)]++(BC x.Cost++([Aa (x.Color)]++(Lv x.Line++([Aa (x.Power),Aa (x.Tough),Aa (x.Keys), .sl (x.Abilities).length ((x.Abilities).flatMap (Ao))]))))
structure Bq where
 Name:List UInt8
 Cost:Eg
 Colors:Int
 Line:Qw
 Power:Int
 Tough:Int
 Keys:Int
 Abilities:List (Ar)
 Control:Int
 deriving DecidableEq,Inhabited
def BU (x:Bq):List C:=[.str (x.Name)]++(BC x.Cost++([Aa (x.Colors)]++(Lv x.Line++([Aa (x.Power),Aa (x.Tough),Aa (x.Keys), .sl (x.Abilities).length ((x.Abilities).flatMap (Ao)),Aa (x.Control)]))))
def nL (cs:List C):BT:=(⟨mQ (cs.getD 0 .any),mQ (cs.getD 1 .any),(⟨Ju (cs.getD 2 .any),Ju (cs.getD 3 .any),Ju (cs.getD 4 .any),Ju (cs.getD 5 .any),Ju (cs.getD 6 .any),Ju (cs.getD 7 .any),Ju (cs.getD 8 .any),oF (cs.getD 9 .any),Ju (cs.getD 10 .any),Ju (cs.getD 11 .any),(⟨Ju (cs.getD 12 .any),Ju (cs.getD 13 .any)⟩:Bw),(⟨Ju (cs.getD 14 .any),Ju (cs.getD 15 .any)⟩:Bw),(⟨Ju (cs.getD 16 .any),Ju (cs.getD 17 .any)⟩:Bw)⟩:BW)⟩:BT)
theorem jO (a b:BT):Co (Aq a) (Aq b)=(a==b):=ci (Aq) nL (fun _=>rfl) (fun _=>rfl) (fun _ _=>rfl) a b
theorem nM:Rx Tryz.prog 33=true:=by kernel_rfl
def fD:J2:=⟨List UInt8,inferInstance,eS,[.str]⟩
def YC:J2:=⟨Bq,inferInstance,BU,[.str, .int .i64, .int .i64, .int .i64, .int .i64, .int .i64, .int .i64, .int .i64, .int .i64, .int .i64, .int .i64, .lst 9, .int .i64, .int .i64, .int .i64, .lst 75, .int .i64]⟩
def mo:J2:=⟨BT,inferInstance,Aq,[.bool, .bool, .int .i64, .int .i64, .int .i64, .int .i64, .int .i64, .int .i64, .int .i64, .str, .int .i64, .int .i64, .int .i64, .int .i64, .int .i64, .int .i64, .int .i64, .int .i64]⟩
def YD:J2:=⟨Ar,inferInstance,Ao,[.int .i64, .int .i64, .int .i64, .int .i64, .int .i64, .int .i64, .int .i64, .int .i64, .str, .int .i64, .int .i64, .int .i64, .int .i64, .int .i64, .int .i64, .int .i64, .int .i64, .lst 147, .int .i64, .int .i64, .int .i64, .int .i64, .int .i64, .int .i64, .int .i64, .bool, .bool, .int .i64, .bool, .int .i64, .int .i64, .int .i64, .int .i64, .int .i64, .int .i64, .int .i64, .int .i64, .int .i64, .str, .int .i64, .int .i64, .int .i64, .int .i64, .int .i64, .int .i64, .int .i64, .int .i64, .bool, .lst 42, .lst 129, .int .i64, .int .i64, .int .i64, .int .i64, .int .i64, .int .i64, .int .i64, .int .i64, .int .i64, .str, .int .i64, .int .i64, .int .i64, .int .i64, .int .i64, .int .i64, .int .i64, .int .i64, .int .i64, .int .i64, .int .i64, .int .i64]⟩
def UE:J2:=⟨Bc,inferInstance,AW,[.int .i64, .int .i64, .int .i64, .int .i64, .int .i64, .int .i64, .int .i64, .int .i64, .int .i64, .int .i64, .str, .int .i64, .int .i64, .int .i64, .int .i64, .int .i64, .int .i64, .int .i64, .int .i64, .int .i64, .int .i64, .int .i64, .int .i64, .int .i64, .int .i64, .int .i64, .int .i64, .int .i64, .int .i64, .str, .int .i64, .int .i64, .int .i64, .int .i64, .int .i64, .int .i64, .int .i64, .int .i64, .int .i64, .int .i64, .str, .int .i64, .int .i64, .int .i64, .int .i64, .int .i64, .int .i64, .int .i64, .str, .int .i64, .int .i64, .int .i64, .int .i64, .int .i64, .int .i64, .int .i64, .int .i64, .int .i64, .int .i64, .int .i64, .int .i64, .int .i64, .int .i64, .lst 147]⟩
def UF:J2:=⟨Lw,inferInstance,Bz,[.int .i64, .int .i64, .int .i64, .str, .int .i64, .int .i64, .int .i64, .int .i64, .int .i64, .int .i64, .int .i64, .str, .int .i64, .int .i64, .int .i64, .int .i64, .int .i64, .int .i64, .int .i64, .int .i64]⟩
def nN:List (Nat×J2):=[(9,fD),(33,YC),(42,mo),(75,YD),(129,UE),(147,UF)]
abbrev mM:Nat→J2:=Lm nN
def nO:b8 mM:=⟨9,fun(a:List UInt8)=>(a,()),fun(a,())=>(a:List UInt8),fun x y=>Co (fD.enc x) (fD.enc y),fun _=>rfl,fun _=>rfl,fun _ _=>rfl⟩
def mq:b8 mM:=⟨33,fun(⟨a,⟨b,c,⟨d,e,f,g,h⟩⟩,i,⟨j,k,l⟩,m,n,o,p,q⟩:Bq)=>(a,b,c,d,e,f,g,h,i,j,k,l,m,n,o,p,q,()),fun(a,b,c,d,e,f,g,h,i,j,k,l,m,n,o,p,q,())=>(⟨a,⟨b,c,⟨d,e,f,g,h⟩⟩,i,⟨j,k,l⟩,m,n,o,p,q⟩:Bq),fun x y=>Co (YC.enc x) (YC.enc y),fun _=>rfl,fun _=>rfl,fun _ _=>rfl⟩
def mr:b8 mM:=⟨42,fun(⟨a,b,⟨c,d,e,f,g,h,i,j,k,l,⟨m,n⟩,⟨o,p⟩,⟨q,r⟩⟩⟩:BT)=>(a,b,c,d,e,f,g,h,i,j,k,l,m,n,o,p,q,r,()),fun(a,b,c,d,e,f,g,h,i,j,k,l,m,n,o,p,q,r,())=>(⟨a,b,⟨c,d,e,f,g,h,i,j,k,l,⟨m,n⟩,⟨o,p⟩,⟨q,r⟩⟩⟩:BT),fun(x y:BT)=>x==y,fun _=>rfl,fun _=>rfl,fun x y=>(jO x y).symm⟩
def mu:b8 mM:=⟨75,fun(⟨a,⟨b,c,d,e,f,g,h,i,j,k,⟨l,m⟩,⟨n,o⟩,⟨p,q⟩⟩,r,⟨⟨s,t,⟨u,v,w,x,y⟩⟩,z,a1,b1⟩,c1,⟨d1,e1,⟨f1,g1,h1,i1,j1,k1,l1,m1,n1,o1,⟨p1,q1⟩,⟨r1,s1⟩,⟨t1,u1⟩⟩⟩,v1,w1,x1,⟨y1,z1,⟨a2,b2,c2,d2,e2,f2,g2,h2,i2,j2,⟨k2,l2⟩,⟨m2,n2⟩,⟨o2,p2⟩⟩,q2,r2,s2,t2⟩⟩:Ar)=>(a,b,c,d,e,f,g,h,i,j,k,l,m,n,o,p,q,r,s,t,u,v,w,x,y,z,a1,b1,c1,d1,e1,f1,g1,h1,i1,j1,k1,l1,m1,n1,o1,p1,q1,r1,s1,t1,u1,v1,w1,x1,y1,z1,a2,b2,c2,d2,e2,f2,g2,h2,i2,j2,k2,l2,m2,n2,o2,p2,q2,r2,s2,t2,()),fun(a,b,c,d,e,f,g,h,i,j,k,l,m,n,o,p,q,r,s,t,u,v,w,x,y,z,a1,b1,c1,d1,e1,f1,g1,h1,i1,j1,k1,l1,m1,n1,o1,p1,q1,r1,s1,t1,u1,v1,w1,x1,y1,z1,a2,b2,c2,d2,e2,f2,g2,h2,i2,j2,k2,l2,m2,n2,o2,p2,q2,r2,s2,t2,())=>(⟨a,⟨b,c,d,e,f,g,h,i,j,k,⟨l,m⟩,⟨n,o⟩,⟨p,q⟩⟩,r,⟨⟨s,t,⟨u,v,w,x,y⟩⟩,z,a1,b1⟩,c1,⟨d1,e1,⟨f1,g1,h1,i1,j1,k1,l1,m1,n1,o1,⟨p1,q1⟩,⟨r1,s1⟩,⟨t1,u1⟩⟩⟩,v1,w1,x1,⟨y1,z1,⟨a2,b2,c2,d2,e2,f2,g2,h2,i2,j2,⟨k2,l2⟩,⟨m2,n2⟩,⟨o2,p2⟩⟩,q2,r2,s2,t2⟩⟩:Ar),fun x y=>Co (YD.enc x) (YD.enc y),fun _=>rfl,fun _=>rfl,fun _ _=>rfl⟩
def i7:b8 mM:=⟨129,fun(⟨a,⟨b,c,⟨d,e,f,g,h,i,j,k,l,m,⟨n,o⟩,⟨p,q⟩,⟨r,s⟩⟩⟩,⟨t,u,v,⟨w,x,y,z,a1,b1,c1,d1,e1,f1,⟨g1,h1⟩,⟨i1,j1⟩,⟨k1,l1⟩⟩⟩,m1,n1,o1,⟨p1,q1,r1,s1,t1,u1,v1,w1,x1,y1,⟨z1,a2⟩,⟨b2,c2⟩,⟨d2,e2⟩⟩,⟨f2,g2,h2,i2,j2,k2⟩,l2⟩:Bc)=>(a,b,c,d,e,f,g,h,i,j,k,l,m,n,o,p,q,r,s,t,u,v,w,x,y,z,a1,b1,c1,d1,e1,f1,g1,h1,i1,j1,k1,l1,m1,n1,o1,p1,q1,r1,s1,t1,u1,v1,w1,x1,y1,z1,a2,b2,c2,d2,e2,f2,g2,h2,i2,j2,k2,l2,()),fun(a,b,c,d,e,f,g,h,i,j,k,l,m,n,o,p,q,r,s,t,u,v,w,x,y,z,a1,b1,c1,d1,e1,f1,g1,h1,i1,j1,k1,l1,m1,n1,o1,p1,q1,r1,s1,t1,u1,v1,w1,x1,y1,z1,a2,b2,c2,d2,e2,f2,g2,h2,i2,j2,k2,l2,())=>(⟨a,⟨b,c,⟨d,e,f,g,h,i,j,k,l,m,⟨n,o⟩,⟨p,q⟩,⟨r,s⟩⟩⟩,⟨t,u,v,⟨w,x,y,z,a1,b1,c1,d1,e1,f1,⟨g1,h1⟩,⟨i1,j1⟩,⟨k1,l1⟩⟩⟩,m1,n1,o1,⟨p1,q1,r1,s1,t1,u1,v1,w1,x1,y1,⟨z1,a2⟩,⟨b2,c2⟩,⟨d2,e2⟩⟩,⟨f2,g2,h2,i2,j2,k2⟩,l2⟩:Bc),fun x y=>Co (UE.enc x) (UE.enc y),fun _=>rfl,fun _=>rfl,fun _ _=>rfl⟩
def i8:b8 mM:=⟨147,fun(⟨a,b,c,d,⟨e,f,g,h,i,j,k,l,m,n,⟨o,p⟩,⟨q,r⟩,⟨s,t⟩⟩⟩:Lw)=>(a,b,c,d,e,f,g,h,i,j,k,l,m,n,o,p,q,r,s,t,()),fun(a,b,c,d,e,f,g,h,i,j,k,l,m,n,o,p,q,r,s,t,())=>(⟨a,b,c,d,⟨e,f,g,h,i,j,k,l,m,n,⟨o,p⟩,⟨q,r⟩,⟨s,t⟩⟩⟩:Lw),fun x y=>Co (UF.enc x) (UF.enc y),fun _=>rfl,fun _=>rfl,fun _ _=>rfl⟩
def TE:AN:=lR nN [nO,mq,mr,mu,i7,i8] rfl
abbrev mN:=CE TE Tryz.prog I0
theorem nP {b:Option Code} (h:b.isSome=true):b=some (b.getD .skip):=by cases b<;>first | rfl | cases h
def mC (Γ:List mN) (f:FuncId) (fn:Func) (h:Hn) (ps rs:List VT) (run:XS TE ps→Option (RT TE rs)) (hf:Tryz.prog.funcs[f]? =some fn) (e:run=Zx Γ 9 fn (fn.body.getD .skip) h ps rs) (hb:fn.body.isSome=true:=by kernel_rfl) (hent:PL.ent Tryz.prog f=true:=by kernel_rfl):mN:=pA Γ DQ IJ 9 f fn _ h ps rs run hf (nP hb) e hent
end Go.PL
