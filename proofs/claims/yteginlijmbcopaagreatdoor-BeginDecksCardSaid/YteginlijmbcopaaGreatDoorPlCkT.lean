/- Plain laws of states: amounts, references, triggers, replacements. -/
import Derived.Test.YteginlijmbcopaaGreatDoorPlCkS
namespace Go.PL
open Go
set_option maxRecDepth 100000
set_option linter.all false
set_option maxHeartbeats 4000000
def cnB (c:Int):Bool:=decide (0<=c)&&decide (c<=2)
theorem wM (c:Int): ∃ w,Fg c=some w/\(w==[])= !cnB c/\(w != [])=cnB c:=by
 unfold cnB;by_cases h:0<=c/\c<=2
 ·have:c=0\/c=1\/c=2:=by omega
  rcases this with rfl | rfl | rfl<;>exact⟨_,rfl,rfl,rfl⟩
 ·have e:(if decide (c<0) then true else decide (3<=c))=true:=by grind
  have e2:(decide (0<=c)&&decide (c<=2))=false:=by grind
  unfold Fg;simp only [Option.bind_some];rw [if_pos e,e2];grind
theorem Ahd (c:Int): ∃ w,lB c=some w/\(w==[])= !cnB c/\(w != [])=cnB c:=by
 unfold cnB;by_cases h:0<=c/\c<=2
 ·have:c=0\/c=1\/c=2:=by omega
  rcases this with rfl | rfl | rfl<;>exact⟨_,rfl,rfl,rfl⟩
 ·have e2:(decide (0<=c)&&decide (c<=2))=false:=by grind
  unfold lB;rw [if_neg (by simp;omega),if_neg (by simp;omega),if_neg (by simp;omega),e2];grind
theorem Afd (m:BC):T (HV m):=by
 obtain⟨k,n,c,f⟩:=m;obtain⟨w,h1,h2,h3⟩:=wM c;by_cases hk:0<=k/\k<=7
 ·have:k=0\/k=1\/k=2\/k=3\/k=4\/k=5\/k=6\/k=7:=by omega
  clear hk;rcases this with rfl | rfl | rfl | rfl | rfl | rfl | rfl | rfl
  all_goals
   simp [jn,T,HV,OL,OI,OJ,h1,FO,gdB,gdt,gdf,zb,zc,ifN,ifP,ifQ]
 ·have h:(decide (k<0)||decide (7<k))=true:=by simp;omega
  exact⟨false,by simp [jn,HV,zc,h,gdf]⟩
theorem Afe (m:Mm) (s:Int):T (Uq m s):=by
 have hJ: ∀ x y,T (Up m s x y):=fun x y=>by unfold Up;simp only [Option.bind_some,FO,ifN,ifQ];grind
 simp only [Uq,Zh,Zg,jn]
 repeat' (first | exact hJ _ _ | exact⟨_,rfl⟩ | refine vZ ?_ ?_)
theorem Aff (w:Int): ∃ t,FT w=some t/\(t==[])= !(decide (0<=w)&&decide (w<=2)):=by
 by_cases h:0<=w/\w<=2
 ·have:w=0\/w=1\/w=2:=by omega
  rcases this with rfl | rfl | rfl<;>exact⟨_,rfl,rfl⟩
 ·have e2:(decide (0<=w)&&decide (w<=2))=false:=by grind
  unfold FT;rw [if_neg (by simp;omega),if_neg (by simp;omega),if_neg (by simp;omega),e2];grind
theorem Afg (m:BB):T (HW m):=by
 obtain⟨w,h1, -⟩:=Aff m.Who;have hJ: ∀ x z,T (LS m x z):=fun x z=>by unfold LS;simp only [Option.bind_some,FO,ifQ];grind
 have hu:T (Js m.akY):=by
  simp only [Js,NC,ND,jn]
  repeat' (first | exact⟨_,rfl⟩ | refine vZ ?_ ?_)
 obtain⟨u,hu⟩:=hu;simp only [HW,jn];simp only [Option.bind_some,hu,h1,iu]
 repeat' (first | exact hJ _ _ | exact⟨_,rfl⟩ | refine vZ ?_ ?_)
theorem Afh (m:Ay):T (HU m):=by
 obtain⟨w,h1, -, -⟩:=wM m.Tl;have hJ: ∀ x,T (KJ m x):=fun x=>by unfold KJ;simp only [Option.bind_some,h1,iu,ifQ];grind
 obtain⟨d,hd⟩:T (Jr m.On m.Do):=by
  simp only [Jr,Mr,jn];simp only [Option.bind_some]
  repeat' (first | exact⟨_,rfl⟩ | refine vZ ?_ ?_)
 obtain⟨n,hn⟩:T (GX m):=by
  simp only [GX,Lo,Ln,Lm,Ll,KD,Lk,jn];simp only [Option.bind_some]
  repeat' (first | exact⟨_,rfl⟩ | refine vZ ?_ ?_)
 simp only [HU,jn];simp only [Option.bind_some,hd,hn,FO,iu];grind
end Go.PL
