/- Functions of the program, as partial functions in Lean, with proofs. -/
import Derived.Test.YteginlijmbcopaaGreatDoorPlBlB
import Derived.Test.YteginlijmbcopaaGreatDoorPlBlF0
import Derived.Test.YteginlijmbcopaaGreatDoorPlBlF1
import Derived.Test.YteginlijmbcopaaGreatDoorPlBlF15
import Derived.Test.YteginlijmbcopaaGreatDoorPlBlF2
import Derived.Test.YteginlijmbcopaaGreatDoorPlBlF3
import Derived.Test.YteginlijmbcopaaGreatDoorPlBlF4
import Derived.Test.YteginlijmbcopaaGreatDoorPlBlF5
import Derived.Test.YteginlijmbcopaaGreatDoorPlBlF6
import Derived.Test.YteginlijmbcopaaGreatDoorPlBlF7
namespace Go.PL
open Go Go.RowKit Go.Proofs
set_option maxRecDepth 100000
set_option linter.all false
set_option maxHeartbeats 4000000
attribute [local irreducible] Aq Cr Cc
def Ic (s_:Aa) (t_:Aa):Option (Bool):=
 (some (if((0:Int)==(0:Int)) then(0:Int)==(0:Int)else false)).bind fun b61=>
 (some (if b61 then(0:Int)==(0:Int)else false)).bind fun b62=>
 (some (if b62 then(0:Int)==(0:Int)else false)).bind fun b63=>
 (some (if b63 then(0:Int)==(0:Int)else false)).bind fun b64=>
 (some (if b64 then(0:Int)==(0:Int)else false)).bind fun b65=>
 (Bg).bind fun r66=>
 (some (if r66 then b65 else false)).bind fun b67=>
 (gd ((b67==true)&&((!(!false))==false)) (Co s_ t_)).bind fun r68=>
 (some (if !(!false) then true else r68)).bind fun b69=>
 (some (if b67 then b69 else false)).bind fun b70=>
 some b70
def EH (afI:Int):Option ((Int)⊕(Unit⊕(Bool×Bool))):=
 (if(decide (afI<(([]:List (Ak)).length :Int))) then
  (idx ([]:List (Ak)) afI).bind fun e82=>
  (idx ([]:List (Ak)) afI).bind fun e83=>
  (idx ([]:List (Ak)) afI).bind fun e84=>
  (idx ([]:List (Ak)) afI).bind fun e85=>
  (if !(e83==e85) then
   some (.inr (.inr (false,false)))
  else
   some (.inl (Ab (afI+1))))
 else
  some (.inr (.inl ())))
def Ie (s_:Aa) (t_:Aa) (b47:Bool) (q48:Int) (q50:Int):Option (Bool):=
 (some (if b47 then true else q48 != q50)).bind fun b52=>
 (some (if b52 then true else(([]:List (Ak)).length :Int) != (([]:List (Ak)).length :Int))).bind fun b53=>
 (if b53 then
  (Bg).bind fun r55=>
  (some (if r55 then false else false)).bind fun b56=>
  (gd ((b56==true)&&((!false)==false)) (Co s_ t_)).bind fun r57=>
  (some (if !false then true else r57)).bind fun b58=>
  (some (if b56 then b58 else false)).bind fun b59=>
  some b59
 else
  jn (fun(v:Unit)=>Ic s_ t_) (fun aC3=>
  (iter (fun(v:Int)=>EH v) FU (0:Int)).bind (Sum.elim (fun o0=>aC3 ()) (fun o1=>(Bg).bind fun r75=>
  (some (if r75 then o1.1 else false)).bind fun b76=>
  (gd ((b76==true)&&((!o1.2)==false)) (Co s_ t_)).bind fun r77=>
  (some (if !o1.2 then true else r77)).bind fun b78=>
  (some (if b76 then b78 else false)).bind fun b79=>
  some b79))))
def If (s_:Aa) (t_:Aa) (D_:Int) (b47:Bool) (q48:Int):Option (Bool):=
 jn (fun(v:Int)=>Ie s_ t_ b47 q48 v) (fun avE=>
 (if b47==false then
  (if false then
   avE (0:Int)
  else
   avE D_)
 else
  avE (0:Int)))
def Ig (s_:Aa) (x_:Int) (t_:Aa) (D_:Int) (q43:Bool) (q45:Bool):Option (Bool):=
 (some (if false != false then true else q43 != q45)).bind fun b47=>
 jn (fun(v:Int)=>If s_ t_ D_ b47 v) (fun avF=>
 (if b47==false then
  (if false then
   avF (0:Int)
  else
   avF x_)
 else
  avF (0:Int)))
def EI (s_:Aa) (x_:Int) (t_:Aa) (Ta:Bool) (D_:Int) (q43:Bool):Option (Bool):=
 jn (fun(v:Bool)=>Ig s_ x_ t_ D_ q43 v) (fun ayk=>
 (if (false != false)==false then
  (some (if true then Ta else false)).bind fun b89=>
  ayk b89
 else
  ayk false))
def Nm (s_:Aa) (t_:Aa) (r91:Ac):Option (Bool):=
 (some (if((0:Int)==r91.Kind) then(0:Int)==r91.abO else false)).bind fun aF7=>
 (some (if aF7 then(0:Int)==r91.Source else false)).bind fun awG=>
 (some (if awG then(0:Int)==r91.aaW else false)).bind fun aF6=>
 (some (if aF6 then(0:Int)==r91.ahx else false)).bind fun aF5=>
 (some (if aF5 then(0:Int)==r91.N else false)).bind fun aF4=>
 (Bg).bind fun apJ=>
 (some (if apJ then aF4 else false)).bind fun azX=>
 (gd ((azX==true)&&((!(!false))==false)) (Co s_ t_)).bind fun aCe=>
 (some (if !(!false) then true else aCe)).bind fun aF3=>
 (some (if azX then aF3 else false)).bind fun aF2=>
 some aF2
def Nn (r91:Ac) (aeL:Int):Option ((Int)⊕(Unit⊕(Bool×Bool))):=
 (if(decide (aeL<(([]:List (Ak)).length :Int))) then
  (idx ([]:List (Ak)) aeL).bind fun aM2=>
  (idx ([]:List (Ak)) aeL).bind fun aEI=>
  (idx r91.Options aeL).bind fun aEH=>
  (if !(aEI==aEH) then
   some (.inr (.inr (false,false)))
  else
   some (.inl (Ab (aeL+1))))
 else
  some (.inr (.inl ())))
def No (s_:Aa) (t_:Aa) (r91:Ac) (b96:Bool) (q97:Int) (q99:Int):Option (Bool):=
 (some (if b96 then true else q97 != q99)).bind fun aF9=>
 (some (if aF9 then true else(([]:List (Ak)).length :Int) != (r91.Options.length:Int))).bind fun awI=>
 (if awI then
  (Bg).bind fun aCk=>
  (some (if aCk then false else false)).bind fun azZ=>
  (gd ((azZ==true)&&((!false)==false)) (Co s_ t_)).bind fun aCj=>
  (some (if !false then true else aCj)).bind fun aF8=>
  (some (if azZ then aF8 else false)).bind fun awH=>
  some awH
 else
  jn (fun(v:Unit)=>Nm s_ t_ r91) (fun ayC=>
  (iter (fun(v:Int)=>Nn r91 v) FU (0:Int)).bind (Sum.elim (fun o0=>ayC ()) (fun o1=>(Bg).bind fun avg=>
  (some (if avg then o1.1 else false)).bind fun azW=>
  (gd ((azW==true)&&((!o1.2)==false)) (Co s_ t_)).bind fun aCb=>
  (some (if !o1.2 then true else aCb)).bind fun aF1=>
  (some (if azW then aF1 else false)).bind fun aF0=>
  some aF0))))
def OH (s_:Aa) (t_:Aa) (D_:Int) (r91:Ac) (b96:Bool) (q97:Int):Option (Bool):=
 jn (fun(v:Int)=>No s_ t_ r91 b96 q97 v) (fun arB=>
 (if b96==false then
  (if false then
   arB (0:Int)
  else
   arB D_)
 else
  arB (0:Int)))
def OI (s_:Aa) (x_:Int) (t_:Aa) (D_:Int) (r91:Ac) (q92:Bool) (q94:Bool):Option (Bool):=
 (some (if false != true then true else q92 != q94)).bind fun b96=>
 jn (fun(v:Int)=>OH s_ t_ D_ r91 b96 v) (fun avD=>
 (if b96==false then
  (if false then
   avD (0:Int)
  else
   avD x_)
 else
  avD (0:Int)))
def OJ (s_:Aa) (x_:Int) (t_:Aa) (Ta:Bool) (D_:Int) (r91:Ac) (q92:Bool):Option (Bool):=
 jn (fun(v:Bool)=>OI s_ x_ t_ D_ r91 q92 v) (fun ayd=>
 (if (false != true)==false then
  (some (if true then Ta else false)).bind fun aFZ=>
  ayd aFZ
 else
  ayd false))
def Np (s_:Aa) (e_:Ac) (t_:Aa) (aaX:(List (Ak))):Option (Bool):=
 (some (if((({e_ with Options:=aaX}).Kind)==(0:Int)) then(({e_ with Options:=aaX}).abO)==(0:Int)else false)).bind fun aFS=>
 (some (if aFS then(({e_ with Options:=aaX}).Source)==(0:Int)else false)).bind fun aFR=>
 (some (if aFR then(({e_ with Options:=aaX}).aaW)==(0:Int)else false)).bind fun aFQ=>
 (some (if aFQ then(({e_ with Options:=aaX}).ahx)==(0:Int)else false)).bind fun aFP=>
 (some (if aFP then(({e_ with Options:=aaX}).N)==(0:Int)else false)).bind fun aFO=>
 (Bg).bind fun aB9=>
 (some (if aB9 then aFO else false)).bind fun atE=>
 (gd ((atE==true)&&((!(!true))==false)) (Co s_ t_)).bind fun aB7=>
 (some (if !(!true) then true else aB7)).bind fun aFN=>
 (some (if atE then aFN else false)).bind fun aFM=>
 some aFM
def Nq (e_:Ac) (aaX:(List (Ak))) (aeK:Int):Option ((Int)⊕(Unit⊕(Bool×Bool))):=
 (if(decide (aeK<((({e_ with Options:=aaX}).Options).length :Int))) then
  (idx (({e_ with Options:=aaX}).Options) aeK).bind fun azG=>
  (idx ([]:List (Ak)) aeK).bind fun azF=>
  (idx ([]:List (Ak)) aeK).bind fun aEF=>
  (if !(azG==aEF) then
   some (.inr (.inr (false,false)))
  else
   some (.inl (Ab (aeK+1))))
 else
  some (.inr (.inl ())))
def Nr (s_:Aa) (e_:Ac) (t_:Aa) (aaX:(List (Ak))) (aoP:Bool) (avl:Int) (aCr:Int):Option (Bool):=
 (some (if aoP then true else avl != aCr)).bind fun aFW=>
 (some (if aFW then true else((({e_ with Options:=aaX}).Options).length :Int) != (([]:List (Ak)).length :Int))).bind fun aFV=>
 (if aFV then
  (Bg).bind fun aCa=>
  (some (if aCa then false else false)).bind fun azV=>
  (gd ((azV==true)&&((!false)==false)) (Co s_ t_)).bind fun aB_=>
  (some (if !false then true else aB_)).bind fun aFU=>
  (some (if azV then aFU else false)).bind fun aFT=>
  some aFT
 else
  jn (fun(v:Unit)=>Np s_ e_ t_ aaX) (fun ayx=>
  (iter (fun(v:Int)=>Nq e_ aaX v) FU (0:Int)).bind (Sum.elim (fun o0=>ayx ()) (fun o1=>(Bg).bind fun aB5=>
  (some (if aB5 then o1.1 else false)).bind fun azU=>
  (gd ((azU==true)&&((!o1.2)==false)) (Co s_ t_)).bind fun aB4=>
  (some (if !o1.2 then true else aB4)).bind fun aFL=>
  (some (if azU then aFL else false)).bind fun aFK=>
  some aFK))))
def Ns (s_:Aa) (e_:Ac) (t_:Aa) (D_:Int) (aaX:(List (Ak))) (aoP:Bool) (avl:Int):Option (Bool):=
 jn (fun(v:Int)=>Nr s_ e_ t_ aaX aoP avl v) (fun ary=>
 (if aoP==false then
  (if false then
   ary (0:Int)
  else
   ary D_)
 else
  ary (0:Int)))
def Nt (s_:Aa) (x_:Int) (e_:Ac) (t_:Aa) (D_:Int) (aaX:(List (Ak))) (avm:Bool) (aCs:Bool):Option (Bool):=
 (some (if true != false then true else avm != aCs)).bind fun aoP=>
 jn (fun(v:Int)=>Ns s_ e_ t_ D_ aaX aoP v) (fun arz=>
 (if aoP==false then
  (if false then
   arz (0:Int)
  else
   arz x_)
 else
  arz (0:Int)))
def Nu (s_:Aa) (x_:Int) (e_:Ac) (t_:Aa) (Ta:Bool) (D_:Int) (aaX:(List (Ak))) (avm:Bool):Option (Bool):=
 jn (fun(v:Bool)=>Nt s_ x_ e_ t_ D_ aaX avm v) (fun at3=>
 (if (true != false)==false then
  (some (if true then Ta else false)).bind fun aFH=>
  at3 aFH
 else
  at3 false))
def GR (s_:Aa) (e_:Ac) (t_:Aa) (aaX:(List (Ak))) (adX:Ac):Option (Bool):=
 (some (if((({e_ with Options:=aaX}).Kind)==adX.Kind) then(({e_ with Options:=aaX}).abO)==adX.abO else false)).bind fun aFA=>
 (some (if aFA then(({e_ with Options:=aaX}).Source)==adX.Source else false)).bind fun aFz=>
 (some (if aFz then(({e_ with Options:=aaX}).aaW)==adX.aaW else false)).bind fun aFy=>
 (some (if aFy then(({e_ with Options:=aaX}).ahx)==adX.ahx else false)).bind fun aFx=>
 (some (if aFx then(({e_ with Options:=aaX}).N)==adX.N else false)).bind fun aFw=>
 (Bg).bind fun aBX=>
 (some (if aBX then aFw else false)).bind fun azS=>
 (gd ((azS==true)&&((!(!true))==false)) (Co s_ t_)).bind fun aBW=>
 (some (if !(!true) then true else aBW)).bind fun aFv=>
 (some (if azS then aFv else false)).bind fun aFu=>
 some aFu
def CT (e_:Ac) (aaX:(List (Ak))) (adX:Ac) (agD:Int):Option ((Int)⊕(Unit⊕(Bool×Bool))):=
 (if(decide (agD<((({e_ with Options:=aaX}).Options).length :Int))) then
  (idx (({e_ with Options:=aaX}).Options) agD).bind fun aEx=>
  (idx adX.Options agD).bind fun aEw=>
  (if !(aEx==aEw) then
   some (.inr (.inr (false,false)))
  else
   some (.inl (Ab (agD+1))))
 else
  some (.inr (.inl ())))
def GT (s_:Aa) (e_:Ac) (t_:Aa) (aaX:(List (Ak))) (adX:Ac) (aoO:Bool) (avj:Int) (aCp:Int):Option (Bool):=
 (some (if aoO then true else avj != aCp)).bind fun aFF=>
 (some (if aFF then true else((({e_ with Options:=aaX}).Options).length :Int) != (adX.Options.length:Int))).bind fun aFD=>
 (if aFD then
  (Bg).bind fun aBZ=>
  (some (if aBZ then false else false)).bind fun azT=>
  (gd ((azT==true)&&((!false)==false)) (Co s_ t_)).bind fun aBY=>
  (some (if !false then true else aBY)).bind fun aFC=>
  (some (if azT then aFC else false)).bind fun aFB=>
  some aFB
 else
  jn (fun(v:Unit)=>GR s_ e_ t_ aaX adX) (fun ayv=>
  (iter (fun(v:Int)=>CT e_ aaX adX v) FU (0:Int)).bind (Sum.elim (fun o0=>ayv ()) (fun o1=>(Bg).bind fun aBV=>
  (some (if aBV then o1.1 else false)).bind fun azR=>
  (gd ((azR==true)&&((!o1.2)==false)) (Co s_ t_)).bind fun aBU=>
  (some (if !o1.2 then true else aBU)).bind fun aFt=>
  (some (if azR then aFt else false)).bind fun aFs=>
  some aFs))))
def GU (s_:Aa) (e_:Ac) (t_:Aa) (D_:Int) (aaX:(List (Ak))) (adX:Ac) (aoO:Bool) (avj:Int):Option (Bool):=
 jn (fun(v:Int)=>GT s_ e_ t_ aaX adX aoO avj v) (fun arw=>
 (if aoO==false then
  (if false then
   arw (0:Int)
  else
   arw D_)
 else
  arw (0:Int)))
def GV (s_:Aa) (x_:Int) (e_:Ac) (t_:Aa) (D_:Int) (aaX:(List (Ak))) (adX:Ac) (avk:Bool) (aCq:Bool):Option (Bool):=
 (some (if true != true then true else avk != aCq)).bind fun aoO=>
 jn (fun(v:Int)=>GU s_ e_ t_ D_ aaX adX aoO v) (fun arx=>
 (if aoO==false then
  (if false then
   arx (0:Int)
  else
   arx x_)
 else
  arx (0:Int)))
def D3 (s_:Aa) (x_:Int) (e_:Ac) (t_:Aa) (Ta:Bool) (D_:Int) (aaX:(List (Ak))) (adX:Ac) (avk:Bool):Option (Bool):=
 jn (fun(v:Bool)=>GV s_ x_ e_ t_ D_ aaX adX avk v) (fun at0=>
 (if (true != true)==false then
  (some (if true then Ta else false)).bind fun aFr=>
  at0 aFr
 else
  at0 false))
def Cp (s_:Aa) (x_:Int) (e_:Ac) (adT:Bool) (ab_:Bool) (t_:Aa) (afs:Ac) (af_:Bool) (Ta:Bool) (D_:Int):Option (Bool):=
 (some (if false then true else !adT)).bind fun b39=>
 (if b39 then
  (some (if false then true else !af_)).bind fun b41=>
  (if b41 then
   jn (fun(v:Bool)=>EI s_ x_ t_ Ta D_ v) (fun as9=>
   (if (false != false)==false then
    (some (if true then ab_ else false)).bind fun b90=>
    as9 b90
   else
    as9 false))
  else
   (GA afs).bind fun r91=>
   jn (fun(v:Bool)=>OJ s_ x_ t_ Ta D_ r91 v) (fun aye=>
   (if (false != true)==false then
    (some (if true then ab_ else false)).bind fun aFY=>
    aye aFY
   else
    aye false)))
 else
  (AX e_.Options).bind fun aaX=>
  (some (if false then true else !af_)).bind fun aFX=>
  (if aFX then
   jn (fun(v:Bool)=>Nu s_ x_ e_ t_ Ta D_ aaX v) (fun apa=>
   (if (true != false)==false then
    (some (if true then ab_ else false)).bind fun aFG=>
    apa aFG
   else
    apa false))
  else
   (GA afs).bind fun adX=>
   jn (fun(v:Bool)=>D3 s_ x_ e_ t_ Ta D_ aaX adX v) (fun at1=>
   (if (true != true)==false then
    (some (if true then ab_ else false)).bind fun aFq=>
    at1 aFq
   else
    at1 false))))
def Nv (aoa:(Aa×Ac×Bool×Bool×Int)->Option (Bool)) (aqi:Aa) (aiX:Ac) (ajY:Bool) (ajR:Bool) (aou:Int):Option (Bool):=
 aoa (({{{aqi with I_:=(1:Int)}with Step:=(0:Int)}with H_:=false}),aiX,ajY,ajR,aou)
def D4 (ae1:Int) (aqS:Aa) (aiW:Ac) (ajX:Bool) (ajQ:Bool) (aot:Int):Option ((Int×Aa×Ac×Bool×Bool×Int)⊕((Aa×Ac×Bool×Bool×Int))):=
 some (.inl ((Ab (ae1+1)),aqS,aiW,ajX,ajQ,aot))
def GW (ao9:(Aa×Ac×Bool×Bool×Int)->Option ((Int×Aa×Ac×Bool×Bool×Int)⊕((Aa×Ac×Bool×Bool×Int)))) (amy:Aa) (aiV:Ac) (ajW:Bool) (ajP:Bool) (aos:Int):Option ((Int×Aa×Ac×Bool×Bool×Int)⊕((Aa×Ac×Bool×Bool×Int))):=
 ao9 (amy,aiV,ajW,ajP,aos)
def CU (ahX:Int) (ae0:Int) (apI:Aa) (ajb:List (Int)) (aex:Ac) (afp:Bool) (afl:Bool) (aj2:Int):Option ((Int×Aa×Ac×Bool×Bool×Int)⊕((Aa×Ac×Bool×Bool×Int)⊕(Ac×Bool×Bool×Int×Aa))):=
 (gd (((ajb.length:Int) != 1)==false) (idx ajb (0:Int))).bind fun aEt=>
 (some (if((ajb.length:Int) != 1) then true else aEt != 1)).bind fun aFp=>
 (if aFp then
  some (.inr (.inr (aex,afp,afl,aj2,apI)))
 else
  (J4 apI ahX).bind fun aBO=>
  some (.inl ((Ab (ae0 - 1)),aBO,aex,afp,afl,aj2)))
def Bw (G_:List (List (Int))) (ahX:Int) (ae0:Int) (ahf:Aa) (abp:Ac) (aa7:Bool) (aa5:Bool) (abf:Int):Option ((Int×Aa×Ac×Bool×Bool×Int)⊕((Aa×Ac×Bool×Bool×Int)⊕(Ac×Bool×Bool×Int×Aa))):=
 (if decide (0<ae0) then
  (L7 ahf ahX ae0).bind fun apI=>
  (idx apI.a_ ahX).bind fun aEu=>
  (if((aEu.Hand.length:Int)==0) then
   some (.inr (.inr (abp,aa7,aa5,abf,apI)))
  else
   jn (fun(v:(List (Int))×Ac×Bool×Bool×Int)=>CU ahX ae0 apI v.1 v.2.1 v.2.2.1 v.2.2.2.1 v.2.2.2.2) (fun ao8=>
   (gd (false==false) (JZ (⟨11,ahX,0,0,0,0,([(⟨10,0,0⟩:Ak),(⟨9,0,0⟩:Ak)]:List (Ak))⟩:Ac))).bind fun avf=>
   (some (if false then true else avf)).bind fun awC=>
   (some (if awC then true else aa7)).bind fun awB=>
   (some (if awB then true else aa5)).bind fun awA=>
   (if awA then
    (Cn (⟨11,ahX,0,0,0,0,([(⟨10,0,0⟩:Ak),(⟨9,0,0⟩:Ak)]:List (Ak))⟩:Ac)).bind fun ave=>
    ao8 (ave,abp,aa7,aa5,abf)
   else if(decide ((G_.length:Int)<=abf)) then
    (GA (⟨11,ahX,0,0,0,0,([(⟨10,0,0⟩:Ak),(⟨9,0,0⟩:Ak)]:List (Ak))⟩:Ac)).bind fun avd=>
    (Cn (⟨11,ahX,0,0,0,0,([(⟨10,0,0⟩:Ak),(⟨9,0,0⟩:Ak)]:List (Ak))⟩:Ac)).bind fun avc=>
    ao8 (avc,avd,true,aa5,abf)
   else
    (idx G_ abf).bind fun aEr=>
    (idx G_ abf).bind fun arZ=>
    (F7 (⟨11,ahX,0,0,0,0,([(⟨10,0,0⟩:Ak),(⟨9,0,0⟩:Ak)]:List (Ak))⟩:Ac) arZ).bind fun avb=>
    (if !avb then
     (Cn (⟨11,ahX,0,0,0,0,([(⟨10,0,0⟩:Ak),(⟨9,0,0⟩:Ak)]:List (Ak))⟩:Ac)).bind fun ava=>
     ao8 (ava,abp,aa7,true,(Ab (abf+1)))
    else
     (DH arZ).bind fun au_=>
     ao8 (au_,abp,aa7,aa5,(Ab (abf+1)))))))
 else
  some (.inr (.inl (ahf,abp,aa7,aa5,abf))))
def B4 (G_:List (List (Int))) (as3:(List (Int))) (ae1:Int) (alB:Aa) (aey:Ac) (afq:Bool) (afm:Bool) (aj3:Int):Option ((Int×Aa×Ac×Bool×Bool×Int)⊕((Aa×Ac×Bool×Bool×Int))):=
 (if(decide (ae1<(as3.length:Int))) then
  (idx as3 ae1).bind fun ahX=>
  jn (fun(v:Aa×Ac×Bool×Bool×Int)=>D4 ae1 v.1 v.2.1 v.2.2.1 v.2.2.2.1 v.2.2.2.2) (fun ao9=>
  jn (fun(v:Aa×Ac×Bool×Bool×Int)=>GW ao9 v.1 v.2.1 v.2.2.1 v.2.2.2.1 v.2.2.2.2) (fun ayq=>
  (iter (fun(v:Int×Aa×Ac×Bool×Bool×Int)=>Bw G_ ahX v.1 v.2.1 v.2.2.1 v.2.2.2.1 v.2.2.2.2.1 v.2.2.2.2.2) FU ((7:Int),alB,aey,afq,afm,aj3)).bind (Sum.elim (fun o0=>ayq (o0.1,o0.2.1,o0.2.2.1,o0.2.2.2.1,o0.2.2.2.2)) (fun o1=>ao9 (o1.2.2.2.2,o1.1,o1.2.1,o1.2.2.1,o1.2.2.2.1)))))
 else
  some (.inr (alB,aey,afq,afm,aj3)))
def D5 (a1:Aa) (G_:List (List (Int))) (aoa:(Aa×Ac×Bool×Bool×Int)->Option (Bool)) (aqj:Aa) (aiY:Ac) (ajZ:Bool) (ajS:Bool) (aov:Int):Option (Bool):=
 (MQ a1 a1.k_).bind fun as3=>
 jn (fun(v:Aa×Ac×Bool×Bool×Int)=>Nv aoa v.1 v.2.1 v.2.2.1 v.2.2.2.1 v.2.2.2.2) (fun ays=>
 (iter (fun(v:Int×Aa×Ac×Bool×Bool×Int)=>B4 G_ as3 v.1 v.2.1 v.2.2.1 v.2.2.2.1 v.2.2.2.2.1 v.2.2.2.2.2) FU ((0:Int),aqj,aiY,ajZ,ajS,aov)).bind (fun o0=>ays (o0.1,o0.2.1,o0.2.2.1,o0.2.2.2.1,o0.2.2.2.2)))
def Nw (ao_:(Aa×Ac×Bool×Bool×Int)->Option (Bool)) (aqV:Aa) (axq:Aa) (aiU:Ac) (ajV:Bool) (ajO:Bool) (aor:Int):Option (Bool):=
 ao_ (aqV,aiU,ajV,ajO,aor)
def Ny (ao7:(Aa×Aa×Ac×Bool×Bool×Int)->Option (Bool)) (amz:Aa) (aqh:Aa) (aiT:Ac) (ajU:Bool) (ajN:Bool) (aoq:Int):Option (Bool):=
 ao7 (amz,aqh,aiT,ajU,ajN,aoq)
def CW (a1:Aa) (aeZ:Int) (adp:Aa) (apH:Aa) (aja:List (Int)) (aew:Ac) (afo:Bool) (afk:Bool) (aj1:Int):Option ((Int×Aa×Aa×Ac×Bool×Bool×Int)⊕((Aa×Aa×Ac×Bool×Bool×Int)⊕(Aa×Ac×Bool×Bool×Int×Aa))):=
 (gd (((aja.length:Int) != 1)==false) (idx aja (0:Int))).bind fun aEo=>
 (some (if((aja.length:Int) != 1) then true else aEo != 1)).bind fun aFn=>
 (if aFn then
  some (.inr (.inr (adp,aew,afo,afk,aj1,apH)))
 else
  (J4 apH a1.k_).bind fun aBM=>
  some (.inl ((Ab (aeZ - 1)),aBM,adp,aew,afo,afk,aj1)))
def Bx (a1:Aa) (G_:List (List (Int))) (aeZ:Int) (ahg:Aa) (adp:Aa) (abo:Ac) (aa6:Bool) (aa4:Bool) (abe:Int):Option ((Int×Aa×Aa×Ac×Bool×Bool×Int)⊕((Aa×Aa×Ac×Bool×Bool×Int)⊕(Aa×Ac×Bool×Bool×Int×Aa))):=
 (if decide (0<aeZ) then
  (L7 ahg a1.k_ aeZ).bind fun apH=>
  (idx apH.a_ a1.k_).bind fun aEp=>
  (if((aEp.Hand.length:Int)==0) then
   some (.inr (.inr (adp,abo,aa6,aa4,abe,apH)))
  else
   jn (fun(v:(List (Int))×Ac×Bool×Bool×Int)=>CW a1 aeZ adp apH v.1 v.2.1 v.2.2.1 v.2.2.2.1 v.2.2.2.2) (fun ao6=>
   (gd (false==false) (JZ (⟨11,a1.k_,0,0,0,0,([(⟨10,0,0⟩:Ak),(⟨9,0,0⟩:Ak)]:List (Ak))⟩:Ac))).bind fun aBL=>
   (some (if false then true else aBL)).bind fun aFm=>
   (some (if aFm then true else aa6)).bind fun aFl=>
   (some (if aFl then true else aa4)).bind fun aFk=>
   (if aFk then
    (Cn (⟨11,a1.k_,0,0,0,0,([(⟨10,0,0⟩:Ak),(⟨9,0,0⟩:Ak)]:List (Ak))⟩:Ac)).bind fun aBJ=>
    ao6 (aBJ,abo,aa6,aa4,abe)
   else if(decide ((G_.length:Int)<=abe)) then
    (GA (⟨11,a1.k_,0,0,0,0,([(⟨10,0,0⟩:Ak),(⟨9,0,0⟩:Ak)]:List (Ak))⟩:Ac)).bind fun aBI=>
    (Cn (⟨11,a1.k_,0,0,0,0,([(⟨10,0,0⟩:Ak),(⟨9,0,0⟩:Ak)]:List (Ak))⟩:Ac)).bind fun aBH=>
    ao6 (aBH,aBI,true,aa4,abe)
   else
    (idx G_ abe).bind fun aMO=>
    (idx G_ abe).bind fun azE=>
    (F7 (⟨11,a1.k_,0,0,0,0,([(⟨10,0,0⟩:Ak),(⟨9,0,0⟩:Ak)]:List (Ak))⟩:Ac) azE).bind fun aBG=>
    (if !aBG then
     (Cn (⟨11,a1.k_,0,0,0,0,([(⟨10,0,0⟩:Ak),(⟨9,0,0⟩:Ak)]:List (Ak))⟩:Ac)).bind fun aBF=>
     ao6 (aBF,abo,aa6,true,(Ab (abe+1)))
    else
     (DH azE).bind fun aBE=>
     ao6 (aBE,abo,aa6,aa4,(Ab (abe+1)))))))
 else
  some (.inr (.inl (ahg,adp,abo,aa6,aa4,abe))))
def EJ (a1:Aa) (abh:Int) (aaQ:Int) (aaP:Int) (aa0:Int) (abg:Int) (ab1:Int) (acS:Bool) (acR:Bool) (afS:Int) (G_:List (List (Int))) (s_:Aa) (x_:Int) (e_:Ac) (adT:Bool) (ab_:Bool):Option (Bool):=
 jn (fun(v:Aa×Ac×Bool×Bool×Int)=>Cp s_ x_ e_ adT ab_ v.1 v.2.1 v.2.2.1 v.2.2.2.1 v.2.2.2.2) (fun aoa=>
 (JY a1).bind fun aad=>
 jn (fun(v:Aa×Ac×Bool×Bool×Int)=>D5 a1 G_ aoa v.1 v.2.1 v.2.2.1 v.2.2.2.1 v.2.2.2.2) (fun ao_=>
 (some (if decide (0<=a1.k_) then decide (a1.k_<(a1.a_.length:Int))else false)).bind fun azQ=>
 (gd (azQ==true) (idx a1.a_ a1.k_)).bind fun aEq=>
 (some (if azQ then !aEq.ahy else false)).bind fun aFo=>
 (if aFo then
  jn (fun(v:Aa×Aa×Ac×Bool×Bool×Int)=>Nw ao_ v.1 v.2.1 v.2.2.1 v.2.2.2.1 v.2.2.2.2.1 v.2.2.2.2.2) (fun ao7=>
  jn (fun(v:Aa×Aa×Ac×Bool×Bool×Int)=>Ny ao7 v.1 v.2.1 v.2.2.1 v.2.2.2.1 v.2.2.2.2.1 v.2.2.2.2.2) (fun aym=>
  (iter (fun(v:Int×Aa×Aa×Ac×Bool×Bool×Int)=>Bx a1 G_ v.1 v.2.1 v.2.2.1 v.2.2.2.1 v.2.2.2.2.1 v.2.2.2.2.2.1 v.2.2.2.2.2.2) FU ((7:Int),(⟨aad.a_,aad.b_,aad.l_,aad.T_,aad.Stack,aad.o_,aad.v_,aad.I_,aad.k_,aad.Step,aad.H_,aad.Priority,aad.Passes,aad.f_,aad.c_,aad.Tw,aad.Extra,aad.aae,aad.z_⟩:Aa),(⟨aad.a_,aad.b_,aad.l_,aad.T_,aad.Stack,aad.o_,aad.v_,aad.I_,aad.k_,aad.Step,aad.H_,aad.Priority,aad.Passes,aad.f_,aad.c_,aad.Tw,aad.Extra,aad.aae,aad.z_⟩:Aa),(⟨abh,aaQ,aaP,aa0,abg,ab1,([]:List (Ak))⟩:Ac),acS,acR,afS)).bind (Sum.elim (fun o0=>aym (o0.1,o0.2.1,o0.2.2.1,o0.2.2.2.1,o0.2.2.2.2.1,o0.2.2.2.2.2)) (fun o1=>ao7 (o1.2.2.2.2.2,o1.1,o1.2.1,o1.2.2.1,o1.2.2.2.1,o1.2.2.2.2.1)))))
 else
  ao_ ((⟨aad.a_,aad.b_,aad.l_,aad.T_,aad.Stack,aad.o_,aad.v_,aad.I_,aad.k_,aad.Step,aad.H_,aad.Priority,aad.Passes,aad.f_,aad.c_,aad.Tw,aad.Extra,aad.aae,aad.z_⟩:Aa),(⟨abh,aaQ,aaP,aa0,abg,ab1,([]:List (Ak))⟩:Ac),acS,acR,afS))))
def Nz (avG:(Aa×Int×Ac×Bool×Bool)->Option (Bool)) (aqB:Aa) (akZ:Int) (ahZ:Ac) (ajK:Bool) (amq:Bool):Option (Bool):=
 avG (({{{aqB with I_:=(1:Int)}with Step:=(0:Int)}with H_:=false}),akZ,ahZ,ajK,amq)
def GX (Tu:List (Ak)) (aeM:Int) (aqA:Aa) (akY:Int) (ahY:Ac) (ajJ:Bool) (amp:Bool):Option (((List (Ak))×Int×Aa×Int×Ac×Bool×Bool)⊕((Aa×Int×Ac×Bool×Bool))):=
 some (.inl (Tu,(Ab (aeM+1)),aqA,akY,ahY,ajJ,amp))
def CX (ahW:Int) (aeQ:Int) (apG:Aa) (aqU:List (Int)) (af6:Int) (ad5:Ac) (ae8:Bool) (ag7:Bool):Option ((Int×Aa×Int×Ac×Bool×Bool)⊕((Aa×Int×Ac×Bool×Bool)⊕(Aa×Int×Ac×Bool×Bool))):=
 (idx aqU (0:Int)).bind fun aEm=>
 (if aEm==0 then
  some (.inr (.inr (apG,af6,ad5,ae8,ag7)))
 else
  (EE apG ahW).bind fun aBB=>
  some (.inl ((Ab (aeQ - 1)),aBB,af6,ad5,ae8,ag7)))
def By (aaj:List (List (Int))) (Tu:List (Ak)) (ahW:Int) (aeQ:Int) (alI:Aa) (aal:Int) (aa3:Ac) (aa2:Bool) (abS:Bool):Option ((Int×Aa×Int×Ac×Bool×Bool)⊕((Aa×Int×Ac×Bool×Bool)⊕(Aa×Int×Ac×Bool×Bool))):=
 (if decide (0<aeQ) then
  (Ib alI ahW aeQ).bind fun apG=>
  (DU apG (1:Int) ahW).bind fun aBD=>
  (if((aBD.length:Int)==0) then
   some (.inr (.inr (apG,aal,aa3,aa2,abS)))
  else
   jn (fun(v:(List (Int))×Int×Ac×Bool×Bool)=>CX ahW aeQ apG v.1 v.2.1 v.2.2.1 v.2.2.2.1 v.2.2.2.2) (fun ao5=>
   (some (if false then true else aa2)).bind fun aww=>
   (some (if aww then true else abS)).bind fun ar8=>
   (gd (ar8==false) (JV (⟨11,ahW,0,0,0,0,Tu⟩:Ac))).bind fun au9=>
   (some (if ar8 then true else au9)).bind fun awv=>
   (if awv then
    (B2 (⟨11,ahW,0,0,0,0,Tu⟩:Ac)).bind fun au8=>
    ao5 (au8,aal,aa3,aa2,abS)
   else if(aal==(aaj.length:Int)) then
    (AX Tu).bind fun aq4=>
    (B2 (⟨11,ahW,0,0,0,0,aq4⟩:Ac)).bind fun aq3=>
    ao5 (aq3,aal,(⟨11,ahW,0,0,0,0,aq4⟩:Ac),true,abS)
   else
    (idx aaj aal).bind fun aEl=>
    (idx aaj aal).bind fun arX=>
    (Ga (⟨11,ahW,0,0,0,0,Tu⟩:Ac) arX).bind fun au7=>
    (if !au7 then
     (B2 (⟨11,ahW,0,0,0,0,Tu⟩:Ac)).bind fun au6=>
     ao5 (au6,(Ab (aal+1)),aa3,aa2,true)
    else
     (BQ arX).bind fun au5=>
     ao5 (au5,(Ab (aal+1)),aa3,aa2,abS)))))
 else
  some (.inr (.inl (alI,aal,aa3,aa2,abS))))
def B5 (aaj:List (List (Int))) (as1:(List (Int))) (Tu:List (Ak)) (aeM:Int) (alJ:Aa) (af7:Int) (ad6:Ac) (ae9:Bool) (ag8:Bool):Option (((List (Ak))×Int×Aa×Int×Ac×Bool×Bool)⊕((Aa×Int×Ac×Bool×Bool))):=
 (if(decide (aeM<(as1.length:Int))) then
  jn (fun(v:Aa×Int×Ac×Bool×Bool)=>GX Tu aeM v.1 v.2.1 v.2.2.1 v.2.2.2.1 v.2.2.2.2) (fun atZ=>
  (idx as1 aeM).bind fun ahW=>
  (iter (fun(v:Int×Aa×Int×Ac×Bool×Bool)=>By aaj Tu ahW v.1 v.2.1 v.2.2.1 v.2.2.2.1 v.2.2.2.2.1 v.2.2.2.2.2) FU ((7:Int),alJ,af7,ad6,ae9,ag8)).bind (Sum.elim (fun o0=>atZ (o0.1,o0.2.1,o0.2.2.1,o0.2.2.2.1,o0.2.2.2.2)) (fun o1=>atZ (o1.1,o1.2.1,o1.2.2.1,o1.2.2.2.1,o1.2.2.2.2))))
 else
  some (.inr (alJ,af7,ad6,ae9,ag8)))
def EK (a1:Aa) (ae_:Int) (ab6:Int) (abL:Int) (abK:Int) (abW:Int) (abV:Int) (acK:Int) (adU:Bool) (afc:Bool) (aaj:List (List (Int))) (abh:Int) (aaQ:Int) (aaP:Int) (aa0:Int) (abg:Int) (ab1:Int) (acS:Bool) (acR:Bool) (afS:Int) (G_:List (List (Int))):Option (Bool):=
 jn (fun(v:Aa×Int×Ac×Bool×Bool)=>EJ a1 abh aaQ aaP aa0 abg ab1 acS acR afS G_ v.1 v.2.1 v.2.2.1 v.2.2.2.1 v.2.2.2.2) (fun avG=>
 (F8 a1).bind fun abm=>
 jn (fun(v:Aa×Int×Ac×Bool×Bool)=>Nz avG v.1 v.2.1 v.2.2.1 v.2.2.2.1 v.2.2.2.2) (fun ayl=>
 (Ia (⟨abm.a_,abm.b_,abm.l_,abm.T_,abm.Stack,abm.o_,abm.v_,abm.I_,abm.k_,abm.Step,abm.H_,abm.Priority,abm.Passes,abm.f_,abm.c_,abm.Tw,abm.Extra,abm.aae,abm.z_⟩:Aa)).bind fun as1=>
 (iter (fun(v:(List (Ak))×Int×Aa×Int×Ac×Bool×Bool)=>B5 aaj as1 v.1 v.2.1 v.2.2.1 v.2.2.2.1 v.2.2.2.2.1 v.2.2.2.2.2.1 v.2.2.2.2.2.2) FU (([(⟨10,0,0⟩:Ak),(⟨9,0,0⟩:Ak)]:List (Ak)),(0:Int),(⟨abm.a_,abm.b_,abm.l_,abm.T_,abm.Stack,abm.o_,abm.v_,abm.I_,abm.k_,abm.Step,abm.H_,abm.Priority,abm.Passes,abm.f_,abm.c_,abm.Tw,abm.Extra,abm.aae,abm.z_⟩:Aa),ae_,(⟨ab6,abL,abK,abW,abV,acK,([]:List (Ak))⟩:Ac),adU,afc)).bind (fun o0=>ayl (o0.1,o0.2.1,o0.2.2.1,o0.2.2.2.1,o0.2.2.2.2))))
def NA (avH:(Int×Int×Int×Int×Int×Int×Bool×Bool×Int×(List (List (Int))))->Option (Bool)) (af1:Int) (aeH:Int) (aeG:Int) (afr:Int) (af0:Int) (ah0:Int) (ajT:Bool) (ajM:Bool) (aop:Int) (ajv:List (List (Int))):Option (Bool):=
 avH (af1,aeH,aeG,afr,af0,ah0,ajT,ajM,aop,ajv)
def BM (a2:List (List (Int))) (ajh:Int) (ade:Int) (acC:Int) (acB:Int) (ac3:Int) (adb:Int) (ad8:Int) (afn:Bool) (afj:Bool) (aj0:Int) (aeY:List (List (Int))):Option ((Int×Int×Int×Int×Int×Int×Int×Bool×Bool×Int×(List (List (Int))))⊕((Int×Int×Int×Int×Int×Int×Bool×Bool×Int×(List (List (Int)))))):=
 (if(decide (ajh<(a2.length:Int))) then
  (idx a2 ajh).bind fun aEj=>
  (DH aEj).bind fun aBA=>
  (app 24 aeY ([aBA]:List (List (Int)))).bind fun aCG=>
  some (.inl ((Ab (ajh+1)),ade,acC,acB,ac3,adb,ad8,afn,afj,aj0,aCG))
 else
  some (.inr (ade,acC,acB,ac3,adb,ad8,afn,afj,aj0,aeY)))
def EL (a1:Aa) (a2:List (List (Int))) (ae_:Int) (ab6:Int) (abL:Int) (abK:Int) (abW:Int) (abV:Int) (acK:Int) (adU:Bool) (afc:Bool) (aaj:List (List (Int))):Option (Bool):=
 jn (fun(v:Int×Int×Int×Int×Int×Int×Bool×Bool×Int×(List (List (Int))))=>EK a1 ae_ ab6 abL abK abW abV acK adU afc aaj v.1 v.2.1 v.2.2.1 v.2.2.2.1 v.2.2.2.2.1 v.2.2.2.2.2.1 v.2.2.2.2.2.2.1 v.2.2.2.2.2.2.2.1 v.2.2.2.2.2.2.2.2.1 v.2.2.2.2.2.2.2.2.2) (fun avH=>
 jn (fun(v:Int×Int×Int×Int×Int×Int×Bool×Bool×Int×(List (List (Int))))=>NA avH v.1 v.2.1 v.2.2.1 v.2.2.2.1 v.2.2.2.2.1 v.2.2.2.2.2.1 v.2.2.2.2.2.2.1 v.2.2.2.2.2.2.2.1 v.2.2.2.2.2.2.2.2.1 v.2.2.2.2.2.2.2.2.2) (fun ayj=>
 (iter (fun(v:Int×Int×Int×Int×Int×Int×Int×Bool×Bool×Int×(List (List (Int))))=>BM a2 v.1 v.2.1 v.2.2.1 v.2.2.2.1 v.2.2.2.2.1 v.2.2.2.2.2.1 v.2.2.2.2.2.2.1 v.2.2.2.2.2.2.2.1 v.2.2.2.2.2.2.2.2.1 v.2.2.2.2.2.2.2.2.2.1 v.2.2.2.2.2.2.2.2.2.2) FU ((0:Int),(0:Int),(0:Int),(0:Int),(0:Int),(0:Int),(0:Int),false,false,(0:Int),([]:List (List (Int))))).bind (fun o0=>ayj (o0.1,o0.2.1,o0.2.2.1,o0.2.2.2.1,o0.2.2.2.2.1,o0.2.2.2.2.2.1,o0.2.2.2.2.2.2.1,o0.2.2.2.2.2.2.2.1,o0.2.2.2.2.2.2.2.2.1,o0.2.2.2.2.2.2.2.2.2))))
def NB (aeh:(Int×Int×Int×Int×Int×Int×Int×Bool×Bool×(List (List (Int))))->Option (Bool)) (akX:Int) (afb:Int) (aeo:Int) (aen:Int) (aeE:Int) (afa:Int) (ag5:Int) (ajI:Bool) (amo:Bool) (ajt:List (List (Int))):Option (Bool):=
 aeh (akX,afb,aeo,aen,aeE,afa,ag5,ajI,amo,ajt)
def BN (a2:List (List (Int))) (ahJ:Int) (af5:Int) (ac0:Int) (acr:Int) (acq:Int) (acz:Int) (acZ:Int) (adK:Int) (ae7:Bool) (ag6:Bool) (aeW:List (List (Int))):Option ((Int×Int×Int×Int×Int×Int×Int×Int×Bool×Bool×(List (List (Int))))⊕((Int×Int×Int×Int×Int×Int×Int×Bool×Bool×(List (List (Int)))))):=
 (if(decide (ahJ<(a2.length:Int))) then
  (idx a2 ahJ).bind fun aEi=>
  (BQ aEi).bind fun aBz=>
  (app 24 aeW ([aBz]:List (List (Int)))).bind fun aCF=>
  some (.inl ((Ab (ahJ+1)),af5,ac0,acr,acq,acz,acZ,adK,ae7,ag6,aCF))
 else
  some (.inr (af5,ac0,acr,acq,acz,acZ,adK,ae7,ag6,aeW)))
def EX (a0:List (AN)) (a1:Aa) (a2:List (List (Int))):Option (Bool):=
 (KM a0 a1).bind fun r1=>
 (some (if !r1 then true else decide (200<(a1.b_.length:Int)))).bind fun b2=>
 (if b2 then
  (Bg).bind fun r4=>
  some r4
 else
  jn (fun(v:Int×Int×Int×Int×Int×Int×Int×Bool×Bool×(List (List (Int))))=>EL a1 a2 v.1 v.2.1 v.2.2.1 v.2.2.2.1 v.2.2.2.2.1 v.2.2.2.2.2.1 v.2.2.2.2.2.2.1 v.2.2.2.2.2.2.2.1 v.2.2.2.2.2.2.2.2.1 v.2.2.2.2.2.2.2.2.2) (fun aeh=>
  jn (fun(v:Int×Int×Int×Int×Int×Int×Int×Bool×Bool×(List (List (Int))))=>NB aeh v.1 v.2.1 v.2.2.1 v.2.2.2.1 v.2.2.2.2.1 v.2.2.2.2.2.1 v.2.2.2.2.2.2.1 v.2.2.2.2.2.2.2.1 v.2.2.2.2.2.2.2.2.1 v.2.2.2.2.2.2.2.2.2) (fun ayi=>
  (iter (fun(v:Int×Int×Int×Int×Int×Int×Int×Int×Bool×Bool×(List (List (Int))))=>BN a2 v.1 v.2.1 v.2.2.1 v.2.2.2.1 v.2.2.2.2.1 v.2.2.2.2.2.1 v.2.2.2.2.2.2.1 v.2.2.2.2.2.2.2.1 v.2.2.2.2.2.2.2.2.1 v.2.2.2.2.2.2.2.2.2.1 v.2.2.2.2.2.2.2.2.2.2) FU ((0:Int),(0:Int),(0:Int),(0:Int),(0:Int),(0:Int),(0:Int),(0:Int),false,false,([]:List (List (Int))))).bind (fun o0=>ayi (o0.1,o0.2.1,o0.2.2.1,o0.2.2.2.1,o0.2.2.2.2.1,o0.2.2.2.2.2.1,o0.2.2.2.2.2.2.1,o0.2.2.2.2.2.2.2.1,o0.2.2.2.2.2.2.2.2.1,o0.2.2.2.2.2.2.2.2.2)))))
def Q1:A9:=mC [cY,cW,LY,jp,KG,P1,P4,KE,Sk,PW,F6,V2,L6,MN,rx,jH,cD,q8,nD,ry,jL,rz] 4 Tryz.f4 (.s .n (.s .n (.s (.r [] [] (.j 1 ⟨[2,4],[(25, .c (.c (.ptr [7,25] (0))))],[[4]],[([7,25], .box [.c (.n_ [1000,7,25]),AD,AD,AD,AD,AD,AD,AD, .c (.Tv),B1,B1]),([1000,7,25], .row 31)]⟩ (.s (.r [] [] (.g 0 (.ug [2,4,25]) .n)) (.s (.r [] [([7,25],0,[1000,7,25],31)] .n) (.j ⟨[3],[],[[4]],[([7,25], .box [.c (.n_ [1000,7,25]),AD,AD,AD,AD,AD,AD,AD, .c (.Tv),B1,B1]),([1000,7,25], .row 31)]⟩ (.s .n (.l ⟨[3,8,9],[A0 10],[[4]],[([7,25], .box [.c (.n_ [1000,7,25]),AD,AD,AD,AD,AD,AD,AD, .c (.Tv),B1,B1]),([1000,7,25], .row 31)]⟩ [(1,⟨[3],[],[[4]],[([7,25], .box [.c (.n_ [1000,7,25]),AD,AD,AD,AD,AD,AD,AD, .c (.Tv),B1,B1]),([1000,7,25], .row 31)]⟩)] (.s .n (.s .n (.s (.s .n (.r [] [] (.t (.q 4 .lz (.q 6 .co (.q 7 .bf .n)))))) .n))))) .n))) (.j 3 ⟨[4,25],[(27, .c (.c (.ptr [6,27] (0))))],[[4],[7,25],[1000,7,25]],[([6,27], .box [.c (.n_ [1000,6,27]),AD,AD,AD,AD,AD,AD, .c (.Tv),B1,B1,AD]),([1000,6,27], .row 31)]⟩ (.s (.r [] [] (.g 0 (.ug [4,25,27]) .n)) (.s (.r [] [([6,27],0,[1000,6,27],31)] .n) (.j ⟨[3],[],[[4],[7,25],[1000,7,25]],[([6,27], .box [.c (.n_ [1000,6,27]),AD,AD,AD,AD,AD,AD, .c (.Tv),B1,B1,AD]),([1000,6,27], .row 31)]⟩ (.s .n (.l ⟨[0,3],[A0 4],[[4],[7,25],[1000,7,25]],[([6,27], .box [.c (.n_ [1000,6,27]),AD,AD,AD,AD,AD,AD, .c (.Tv),B1,B1,AD]),([1000,6,27], .row 31)]⟩ [(1,⟨[3],[],[[4],[7,25],[1000,7,25]],[([6,27], .box [.c (.n_ [1000,6,27]),AD,AD,AD,AD,AD,AD, .c (.Tv),B1,B1,AD]),([1000,6,27], .row 31)]⟩)] (.s .n (.s (.r [] [] (.t (.q 4 .lz .n))) .n)))) .n))) .n))) (.s (.r [] [] (.t (.j 2 ⟨[4,7,8,31,32],[(30, .agg [.v (.s 36)])],[[4],[6,27],[1000,6,27],[1000,7,25]],[([7,25], .box [.c (.n_ [1000,7,25]),AD, .v (.s 54),B1,B1])]⟩ (.s (.r [] [] (.g 0 (.ug [4,7,8,30,31,32]) .n)) (.s (.r [] [] (.q 1 .co .n)) (.s .n (.s .n (.j ⟨[3,4],[],[[4],[4,30],[6,27],[1000,6,27],[1000,7,25]],[([3,30], .box [.v (.s 36)]),([7,25], .box [.c (.n_ [1000,7,25]),AD, .v (.s 54),B1,B1])]⟩ (.s (.r [[3,0,11,30],[4,0,11,30],[16,0,11,30],[2,0,11,30],[1,0,11,30],[6,0,11,30]] [] (.g 0 (.fd [1000003,0,0,11,30]) .n)) (.l ⟨[0,3,4,16,17],[(5, .c (.v (.k (.u_ 82)))),A0 18],[[4],[4,30],[6,27],[1000,6,27],[1000,7,25]],[([3,30], .box [.v (.s 36)]),([7,25], .box [.c (.n_ [1000,7,25]),AD, .v (.s 54),B1,B1])]⟩ [(1,⟨[3,4],[],[[4],[4,30],[6,27],[1000,6,27],[1000,7,25]],[([3,30], .box [.v (.s 36)]),([7,25], .box [.c (.n_ [1000,7,25]),AD, .v (.s 54),B1,B1])]⟩)] (.s .n (.s .n (.j ⟨[0,3,4,5,16,17,18],[],[[4],[4,30],[6,27],[1000,6,27],[1000,7,25]],[([3,30], .box [.v (.s 36)]),([7,25], .box [.c (.n_ [1000,7,25]),AD, .v (.s 54),B1,B1])]⟩ (.s .n (.s .n (.l ⟨[0,3,4,5,7,16,17,18],[A0 8],[[4],[4,30],[6,27],[1000,6,27],[1000,7,25]],[([3,30], .box [.v (.s 36)]),([7,25], .box [.c (.n_ [1000,7,25]),AD, .v (.s 54),B1,B1])]⟩ [(3,⟨[0,3,4,5,16,17,18],[],[[4],[4,30],[6,27],[1000,6,27],[1000,7,25]],[([3,30], .box [.v (.s 36)]),([7,25], .box [.c (.n_ [1000,7,25]),AD, .v (.s 54),B1,B1])]⟩),(2,⟨[0,3,4,5,16,17,18],[],[[4],[4,30],[6,27],[1000,6,27],[1000,7,25]],[([3,30], .box [.v (.s 36)]),([7,25], .box [.c (.n_ [1000,7,25]),AD, .v (.s 54),B1,B1])]⟩)] (.s .n (.s (.s .n (.s .n (.s (.r [] [] (.j 4 ⟨[0,3,4,5,7,8,16,17,18],[(39, .c (.v (.k (.u_ 3))))],[[3,30],[4],[4,30],[6,27],[1000,6,27],[1000,7,25]],[([7,25], .box [.c (.n_ [1000,7,25]),AD, .v (.s 54),B1,B1])]⟩ (.s (.r [] [] (.g 0 (.ug [0,3,4,5,7,8,16,17,18,39]) .n)) (.s .n (.s .n (.s .n (.s .n (.s .n (.s (.r [] [] (.q 1 .co .n)) .n))))))) .n)) .n))) .n))))) .n))))) .n))))) (.j 5 ⟨[7,8,30],[(33, .agg [.v (.s 36)])],[[7,25],[1000,6,27],[1000,7,25]],[([6,27], .box [.c (.n_ [1000,6,27]), .v (.s 54),B1,B1,AD])]⟩ (.s (.r [] [] (.g 0 (.ug [7,8,30,33]) .n)) (.s (.r [] [] (.q 1 .co .n)) (.j ⟨[0,3,4,5],[],[[3,33],[4,33],[7,25],[1000,6,27],[1000,7,25]],[([5,33], .box [.v (.s 36)]),([6,27], .box [.c (.n_ [1000,6,27]), .v (.s 54),B1,B1,AD])]⟩ (.s .n (.i (.r [] [] (.j 4 ⟨[0,3,4,5],[(35, .agg [.v (.s 36)])],[[3,33],[4,33],[7,25],[1000,6,27],[1000,7,25]],[([5,33], .box [.v (.s 36)]),([6,27], .box [.c (.n_ [1000,6,27]), .v (.s 54),B1,B1,AD])]⟩ (.s (.r [] [] (.g 0 (.ug [0,3,4,5,35]) .n)) (.j ⟨[4,6],[],[[3,33],[4,33],[6,35,33],[7,25],[1000,6,27],[1000,7,25]],[([4,35,33], .box [.v (.s 36)]),([5,33], .box [.v (.s 36)]),([6,27], .box [.c (.n_ [1000,6,27]), .v (.s 54),B1,B1,AD])]⟩ (.s .n (.l ⟨[0,2,4,6],[A0 7],[[3,33],[4,33],[6,35,33],[7,25],[1000,6,27],[1000,7,25]],[([4,35,33], .box [.v (.s 36)]),([5,33], .box [.v (.s 36)]),([6,27], .box [.c (.n_ [1000,6,27]), .v (.s 54),B1,B1,AD])]⟩ [(1,⟨[4,6],[],[[3,33],[4,33],[6,35,33],[7,25],[1000,6,27],[1000,7,25]],[([4,35,33], .box [.v (.s 36)]),([5,33], .box [.v (.s 36)]),([6,27], .box [.c (.n_ [1000,6,27]), .v (.s 54),B1,B1,AD])]⟩),(0,⟨[6],[],[[3,33],[4,33],[7,25],[1000,6,27],[1000,7,25]],[([5,33], .box [.v (.s 36)]),([6,27], .box [.c (.n_ [1000,6,27]), .v (.s 54),B1,B1,AD]),([6,35,33], .box [.v (.s 36)])]⟩)] (.s .n (.s (.s .n (.s .n (.s (.r [] [] (.j 6 ⟨[0,2,4,6,7],[(32, .c (.v (.k (.u_ 3))))],[[3,33],[4,33],[4,35,33],[5,33],[6,35,33],[7,25],[1000,6,27],[1000,7,25]],[([6,27], .box [.c (.n_ [1000,6,27]), .v (.s 54),B1,B1,AD])]⟩ (.s (.r [] [] (.g 0 (.ug [0,2,4,6,7,32]) .n)) .n) .n)) .n))) .n)))) .n)) .n)) .n)) (.s .n (.j ⟨[4,5],[],[[4,33],[7,25],[1000,6,27],[1000,7,25]],[([5,33], .box [.v (.s 36)]),([6,27], .box [.c (.n_ [1000,6,27]), .v (.s 54),B1,B1,AD])]⟩ (.s .n (.l ⟨[0,4,5,6],[A0 7],[[4,33],[7,25],[1000,6,27],[1000,7,25]],[([5,33], .box [.v (.s 36)]),([6,27], .box [.c (.n_ [1000,6,27]), .v (.s 54),B1,B1,AD])]⟩ [(1,⟨[4,5],[],[[4,33],[7,25],[1000,6,27],[1000,7,25]],[([5,33], .box [.v (.s 36)]),([6,27], .box [.c (.n_ [1000,6,27]), .v (.s 54),B1,B1,AD])]⟩)] (.s .n (.s (.r [] [] (.t (.j 6 ⟨[0,4,5,6,7],[(52, .agg [.v (.s 36)])],[[4,33],[5,33],[7,25],[1000,6,27],[1000,7,25]],[([6,27], .box [.c (.n_ [1000,6,27]), .v (.s 54),B1,B1,AD])]⟩ (.s (.r [] [] (.g 0 (.ug [0,4,5,6,7,52]) .n)) (.j ⟨[4,6],[],[[4,33],[5,33],[6,52,33],[7,25],[1000,6,27],[1000,7,25]],[([4,52,33], .box [.v (.s 36)]),([6,27], .box [.c (.n_ [1000,6,27]), .v (.s 54),B1,B1,AD])]⟩ (.s .n (.l ⟨[0,2,4,6],[A0 7],[[4,33],[5,33],[6,52,33],[7,25],[1000,6,27],[1000,7,25]],[([4,52,33], .box [.v (.s 36)]),([6,27], .box [.c (.n_ [1000,6,27]), .v (.s 54),B1,B1,AD])]⟩ [(1,⟨[4,6],[],[[4,33],[5,33],[6,52,33],[7,25],[1000,6,27],[1000,7,25]],[([4,52,33], .box [.v (.s 36)]),([6,27], .box [.c (.n_ [1000,6,27]), .v (.s 54),B1,B1,AD])]⟩),(0,⟨[6],[],[[4,33],[5,33],[7,25],[1000,6,27],[1000,7,25]],[([6,27], .box [.c (.n_ [1000,6,27]), .v (.s 54),B1,B1,AD]),([6,52,33], .box [.v (.s 36)])]⟩)] (.s .n (.s (.s .n (.s .n (.s (.r [] [] (.j 6 ⟨[0,2,4,6,7],[(32, .c (.v (.k (.u_ 3))))],[[4,33],[4,52,33],[5,33],[6,52,33],[7,25],[1000,6,27],[1000,7,25]],[([6,27], .box [.c (.n_ [1000,6,27]), .v (.s 54),B1,B1,AD])]⟩ (.s (.r [] [] (.g 0 (.ug [0,2,4,6,7,32]) .n)) .n) .n)) .n))) .n)))) .n)) .n))) .n)))) .n))))) .n)))) (.s (.r [] [] (.c 2 (.s (.r [] [] (.g 0 (.ug [9,10,37]) .n)) (.s (.r [] [([6,37],6,[1006,6,37],82)] (.c 1 (.s (.r [] [] (.g 0 (.ug [0,1,13]) .n)) .n) .n)) (.s (.r [] [([8,37],6,[1006,8,37],82)] (.c 1 (.s (.r [] [] (.g 0 (.ug [0,1,6,7,18]) .n)) .n) .n)) (.s (.s (.r [] [] (.u 5 [0,1,6,7,8,24] [[6,27],[6,37],[7,25],[8,37],[9],[10],[1000,6,27],[1000,7,25],[1006,6,37],[1006,8,37]] (.bool) (.s (.r [] [] (.g 0 (.ug [0,1,6,7,8,24,26]) .n)) .n) (.u 7 [0,1,6,7,8,24,26] [[6,27],[6,37],[7,25],[8,37],[9],[10],[1000,6,27],[1000,7,25],[1006,6,37],[1006,8,37]] (.bool) (.s (.r [] [] (.g 0 (.ug [0,1,6,7,8,24,26,28]) .n)) .n) (.u 12 [1,6,7,8,31] [[6,27],[6,37],[8,37],[9],[10],[1000,6,27],[1006,6,37],[1006,8,37]] (.int .i64) (.s (.r [] [] (.g 0 (.ug [1,6,7,8,31,33]) .n)) .n) (.u 14 [6,7,8,31,33] [[6,37],[8,37],[9],[10],[1006,6,37],[1006,8,37]] (.int .i64) (.s (.r [] [] (.g 0 (.ug [6,7,8,31,33,35]) .n)) .n) .n))))) .n) (.j ⟨[6,7,8],[],[[6,37],[8,37],[9],[10],[1006,6,37],[1006,8,37]],[]⟩ (.s .n (.l ⟨[6,7,8,49],[A0 50],[[6,37],[8,37],[9],[10],[1006,6,37],[1006,8,37]],[]⟩ [(1,⟨[6,7,8],[],[[6,37],[8,37],[9],[10],[1006,6,37],[1006,8,37]],[]⟩),(0,⟨[],[EO 4,EO 5],[[9],[10]],[]⟩)] .n)) (.s (.r [] [([6,37],6,[1006,6,37],82)] .n) (.s (.r [] [([8,37],6,[1006,8,37],82)] .n) .n))))))) .n)) .n))))) [.k (.u_ 102), .s 36, .k (.u_ 31)] [.k (.bool)] (fun x=>EX x.1 x.2.1 x.2.2.1) Tryz.func4 (by kernel_rfl)
def Q3 (a0:List (AN)) (a1:Aa) (a2:List (List (Int))) (r:Bool):Prop:=CZ Tryz.prog I0 4 [vL N8 a0,vA Pa a1,vL (eL (eI .i64)) a2] (· =vB r)
theorem Pz {a0:List (AN)} {a1:Aa} {a2:List (List (Int))} {r:Bool} (h:EX a0 a1 a2=some r):Q3 a0 a1 a2 r:=QL (by kernel_rfl) (Q1.ok (a0,a1,a2,()) r h)
end Go.PL
