/- Of the proof of laws.FnPorts: a part. No condition beyond what its theorems say. -/
/- The machine side of laws.FnPorts: where the plain function of that name answers true, its call returns true. No condition beyond what its arguments read as. -/
import Derived.Test.YtaoipjdmmamkmaaVFnPortsWTight
import Derived.Test.YtaoipjdmmamkmaaVFnPortsPx0
import Derived.Test.YtaoipjdmmamkmaaVFnPortsPx1
import Derived.Test.YtaoipjdmmamkmaaVFnPortsPx2
import Derived.Test.YtaoipjdmmamkmaaVFnPortsPx3
import Derived.Test.YtaoipjdmmamkmaaVFnPortsPx4
import Derived.Test.YtaoipjdmmamkmaaVFnPortsPx5
import Derived.Test.YtaoipjdmmamkmaaVFnPortsPx6
import Derived.Test.YtaoipjdmmamkmaaVFnPortsPx7
import Derived.Test.YtaoipjdmmamkmaaVFnPortsPx8
import Derived.Test.YtaoipjdmmamkmaaVFnPortsPx9
import Derived.Test.YtaoipjdmmamkmaaVFnPortsPx10
import Derived.Test.YtaoipjdmmamkmaaVFnPortsPx11
import Derived.Test.YtaoipjdmmamkmaaVFnPortsPx12
import Derived.Test.YtaoipjdmmamkmaaVFnPortsPx13
import Derived.Test.YtaoipjdmmamkmaaVFnPortsPx14
import Derived.Test.YtaoipjdmmamkmaaVFnPortsPx15
import Derived.Test.YtaoipjdmmamkmaaVFnPortsPx16
namespace Go.Proofs.Ytaoipjdmmamkmaa.PFnPorts
open Go.RowKit Go.Proofs.YtaoipjdmmamkmaaW.PrintWords Go.Proofs.YtaoipjdmmamkmaaW.PrintLast Go.Proofs.YtaoipjdmmamkmaaW.PrintMore
attribute [local go_sem] max2_int min2_int max_two min_two max_three min_three max_four min_four   -- for this text's walks alone
set_option linter.unusedVariables false
set_option linter.unusedSimpArgs false
theorem eqA38 (d : Nat) (w : World) (x0 y0 : Bool) (x1 y1 : Bool) (x2 y2 : Int) (x3 y3 : Int) (x4 y4 : Int) (x5 y5 : Int) (x6 y6 : Int) (x7 y7 : Int) (x8 y8 : Int) (x9 y9 : Int) (x10 y10 : Bool) :
  (Op.equalIn (d + 3) 38 (.agg #[.bool x0, .bool x1, .int .i64 x2, .int .i64 x3, .int .i64 x4, .int .i64 x5, .int .i64 x6, .int .i64 x7, .int .i64 x8, .int .i64 x9, .bool x10]) (.agg #[.bool y0, .bool y1, .int .i64 y2, .int .i64 y3, .int .i64 y4, .int .i64 y5, .int .i64 y6, .int .i64 y7, .int .i64 y8, .int .i64 y9, .bool y10])).run Try.prog w = .ok (x0 == y0 && (x1 == y1 && ((x2 == y2 && (x3 == y3 && (x4 == y4 && (x5 == y5)))) && (x6 == y6 && (x7 == y7 && (x8 == y8 && (x9 == y9 && (x10 == y10)))))))) w := by
 refine eqA_of Try.underlying38 (by kernel_rfl) ?_
 refine eqf_cons (by rfl) (by go_simp; rfl) (by go_simp; rfl) (by go_simp) ?_
 refine eqf_cons (by rfl) (by go_simp; rfl) (by go_simp; rfl) (by go_simp) ?_
 refine eqf_cons (by rfl) (by go_simp) (by go_simp) (eqA36 (d + 0) w _ _ _ _ _ _ _ _) ?_
 refine eqf_cons (by rfl) (by go_simp; rfl) (by go_simp; rfl) (by go_simp) ?_
 refine eqf_cons (by rfl) (by go_simp; rfl) (by go_simp; rfl) (by go_simp) ?_
 refine eqf_cons (by rfl) (by go_simp; rfl) (by go_simp; rfl) (by go_simp) ?_
 refine eqf_cons (by rfl) (by go_simp; rfl) (by go_simp; rfl) (by go_simp) ?_
 exact eqf_last (by rfl) (by go_simp; rfl) (by go_simp; rfl) (by go_simp)
attribute [local go_sem high] eqA36 eqA38

mutual
def laws_FnPorts.j0 : Nat → Bool → Bool → Bool → Int → Int → Int → Int → Int → Int → Int → Int → Bool → Bool → Bool → Int → Int → Int → Int → Int → Int → Int → Int → Bool → Bool → Bool → Int → Int → Int → Int → Int → Int → Int → Int → Bool → Bool → Bool → Int → Int → Int → Int → Int → Int → Int → Int → Bool → Bool → Bool → Int → Int → Int → Int → Int → Int → Int → Int → Bool → Bool → Bool → Int → Int → Int → Int → Int → Int → Int → Int → Bool → Option (Bool)
 | 0, _, _, _, _, _, _, _, _, _, _, _, _, _, _, _, _, _, _, _, _, _, _, _, _, _, _, _, _, _, _, _, _, _, _, _, _, _, _, _, _, _, _, _, _, _, _, _, _, _, _, _, _, _, _, _, _, _, _, _, _, _, _, _, _, _, _, _ => none
 | k + 1, x64, x598000, x598001, x598002, x598003, x598004, x598005, x598006, x598007, x598008, x598009, x598010, x611000, x611001, x611002, x611003, x611004, x611005, x611006, x611007, x611008, x611009, x611010, x623000, x623001, x623002, x623003, x623004, x623005, x623006, x623007, x623008, x623009, x623010, x635000, x635001, x635002, x635003, x635004, x635005, x635006, x635007, x635008, x635009, x635010, x648000, x648001, x648002, x648003, x648004, x648005, x648006, x648007, x648008, x648009, x648010, x660000, x660001, x660002, x660003, x660004, x660005, x660006, x660007, x660008, x660009, x660010 => if x64 = true then (some false) else ((impl_PortOk.f k x598000 x598001 x598002 x598003 x598004 x598005 x598006 x598007 x598008 x598009 x598010).bind fun t707 => (if t707 = true then ((impl_PortOk.f k x611000 x611001 x611002 x611003 x611004 x611005 x611006 x611007 x611008 x611009 x611010).bind fun t708 => (if t708 = true then (if x598001 = true then (if x611001 = true then ((impl_PortOk.f k x648000 x648001 x648002 x648003 x648004 x648005 x648006 x648007 x648008 x648009 x648010).bind fun t709 => (if t709 = true then ((impl_PortOk.f k x660000 x660001 x660002 x660003 x660004 x660005 x660006 x660007 x660008 x660009 x660010).bind fun t710 => (laws_FnPorts.j1 k (!t710) x623000 x623001 x623002 x623003 x623004 x623005 x623006 x623007 x623008 x623009 x623010 x635000 x635001 x635002 x635003 x635004 x635005 x635006 x635007 x635008 x635009 x635010)) else (laws_FnPorts.j1 k false x623000 x623001 x623002 x623003 x623004 x623005 x623006 x623007 x623008 x623009 x623010 x635000 x635001 x635002 x635003 x635004 x635005 x635006 x635007 x635008 x635009 x635010))) else (laws_FnPorts.j1 k true x623000 x623001 x623002 x623003 x623004 x623005 x623006 x623007 x623008 x623009 x623010 x635000 x635001 x635002 x635003 x635004 x635005 x635006 x635007 x635008 x635009 x635010)) else ((impl_PortOk.f k x648000 x648001 x648002 x648003 x648004 x648005 x648006 x648007 x648008 x648009 x648010).bind fun t711 => (if t711 = true then ((impl_PortOk.f k x660000 x660001 x660002 x660003 x660004 x660005 x660006 x660007 x660008 x660009 x660010).bind fun t712 => (laws_FnPorts.j1 k (!t712) x623000 x623001 x623002 x623003 x623004 x623005 x623006 x623007 x623008 x623009 x623010 x635000 x635001 x635002 x635003 x635004 x635005 x635006 x635007 x635008 x635009 x635010)) else (laws_FnPorts.j1 k false x623000 x623001 x623002 x623003 x623004 x623005 x623006 x623007 x623008 x623009 x623010 x635000 x635001 x635002 x635003 x635004 x635005 x635006 x635007 x635008 x635009 x635010)))) else (laws_FnPorts.j1 k true x623000 x623001 x623002 x623003 x623004 x623005 x623006 x623007 x623008 x623009 x623010 x635000 x635001 x635002 x635003 x635004 x635005 x635006 x635007 x635008 x635009 x635010))) else ((impl_PortOk.f k x648000 x648001 x648002 x648003 x648004 x648005 x648006 x648007 x648008 x648009 x648010).bind fun t713 => (if t713 = true then ((impl_PortOk.f k x660000 x660001 x660002 x660003 x660004 x660005 x660006 x660007 x660008 x660009 x660010).bind fun t714 => (laws_FnPorts.j1 k (!t714) x623000 x623001 x623002 x623003 x623004 x623005 x623006 x623007 x623008 x623009 x623010 x635000 x635001 x635002 x635003 x635004 x635005 x635006 x635007 x635008 x635009 x635010)) else (laws_FnPorts.j1 k false x623000 x623001 x623002 x623003 x623004 x623005 x623006 x623007 x623008 x623009 x623010 x635000 x635001 x635002 x635003 x635004 x635005 x635006 x635007 x635008 x635009 x635010)))))
def laws_FnPorts.j1 : Nat → Bool → Bool → Bool → Int → Int → Int → Int → Int → Int → Int → Int → Bool → Bool → Bool → Int → Int → Int → Int → Int → Int → Int → Int → Bool → Option (Bool)
 | 0, _, _, _, _, _, _, _, _, _, _, _, _, _, _, _, _, _, _, _, _, _, _, _ => none
 | k + 1, x89, x623000, x623001, x623002, x623003, x623004, x623005, x623006, x623007, x623008, x623009, x623010, x635000, x635001, x635002, x635003, x635004, x635005, x635006, x635007, x635008, x635009, x635010 => if x89 = true then (some false) else ((impl_PortOk.f k x623000 x623001 x623002 x623003 x623004 x623005 x623006 x623007 x623008 x623009 x623010).bind fun t715 => (if t715 = true then (if x635007 < x623007 then (some true) else (some (x635000 == x623000 && (x635001 == x623001 && ((x635002 == x623002 && (x635003 == x623003 && (x635004 == x623004 && (x635005 == x623005)))) && (x635006 == x623006 && (x635007 == x623007 && (x635008 == x623008 && (x635009 == x623009 && (x635010 == x623010)))))))))) else (some true)))
end
def laws_FnPorts.f (k : Nat) (l0 : List Int) : Option (Bool) := (laws_big.f l0).bind fun t580 => (if t580 = true then (some true) else ((spec_DrawClaim.f k l0).bind fun bt581 => ((impl_Claim.f k bt581.1 bt581.2.1 bt581.2.2.1 bt581.2.2.2.1 bt581.2.2.2.2.1 bt581.2.2.2.2.2.1 bt581.2.2.2.2.2.2.1 bt581.2.2.2.2.2.2.2.1 bt581.2.2.2.2.2.2.2.2.1 bt581.2.2.2.2.2.2.2.2.2.1 bt581.2.2.2.2.2.2.2.2.2.2.1 bt581.2.2.2.2.2.2.2.2.2.2.2.1 bt581.2.2.2.2.2.2.2.2.2.2.2.2.1 bt581.2.2.2.2.2.2.2.2.2.2.2.2.2.1 bt581.2.2.2.2.2.2.2.2.2.2.2.2.2.2.1 bt581.2.2.2.2.2.2.2.2.2.2.2.2.2.2.2).bind fun bt599 => ((spec_DrawFade.f k l0).bind fun bt611 => ((impl_Fade.f k bt611.1 bt611.2.1 bt611.2.2.1 bt611.2.2.2.1 bt611.2.2.2.2.1 bt611.2.2.2.2.2.1 bt611.2.2.2.2.2.2.1 bt611.2.2.2.2.2.2.2.1 bt611.2.2.2.2.2.2.2.2.1 bt611.2.2.2.2.2.2.2.2.2.1 bt611.2.2.2.2.2.2.2.2.2.2).bind fun bt623 => ((spec_DrawTurn.f k l0).bind fun bt635 => ((impl_Turn.f k bt635.1 bt635.2.1 bt635.2.2.1 bt635.2.2.2.1 bt635.2.2.2.2.1 bt635.2.2.2.2.2.1 bt635.2.2.2.2.2.2.1 bt635.2.2.2.2.2.2.2.1 bt635.2.2.2.2.2.2.2.2.1 bt635.2.2.2.2.2.2.2.2.2.1 bt635.2.2.2.2.2.2.2.2.2.2.1 bt635.2.2.2.2.2.2.2.2.2.2.2).bind fun bt648 => ((spec_DrawPortOk.f k l0).bind fun bt660 => ((spec_Claim.f k bt581.1 bt581.2.1 bt581.2.2.1 bt581.2.2.2.1 bt581.2.2.2.2.1 bt581.2.2.2.2.2.1 bt581.2.2.2.2.2.2.1 bt581.2.2.2.2.2.2.2.1 bt581.2.2.2.2.2.2.2.2.1 bt581.2.2.2.2.2.2.2.2.2.1 bt581.2.2.2.2.2.2.2.2.2.2.1 bt581.2.2.2.2.2.2.2.2.2.2.2.1 bt581.2.2.2.2.2.2.2.2.2.2.2.2.1 bt581.2.2.2.2.2.2.2.2.2.2.2.2.2.1 bt581.2.2.2.2.2.2.2.2.2.2.2.2.2.2.1 bt581.2.2.2.2.2.2.2.2.2.2.2.2.2.2.2).bind fun bt672 => (if (!(bt599.1 == bt672.1) || (!(bt599.2.1 == bt672.2.1) || ((!(bt599.2.2.1 == bt672.2.2.1) || (!(bt599.2.2.2.1 == bt672.2.2.2.1) || (!(bt599.2.2.2.2.1 == bt672.2.2.2.2.1) || (!(bt599.2.2.2.2.2.1 == bt672.2.2.2.2.2.1))))) || (!(bt599.2.2.2.2.2.2.1 == bt672.2.2.2.2.2.2.1) || (!(bt599.2.2.2.2.2.2.2.1 == bt672.2.2.2.2.2.2.2.1) || (!(bt599.2.2.2.2.2.2.2.2.1 == bt672.2.2.2.2.2.2.2.2.1) || (!(bt599.2.2.2.2.2.2.2.2.2.1 == bt672.2.2.2.2.2.2.2.2.2.1) || (!(bt599.2.2.2.2.2.2.2.2.2.2 == bt672.2.2.2.2.2.2.2.2.2.2))))))))) = true then (laws_FnPorts.j0 k true bt581.1 bt581.2.1 bt581.2.2.1 bt581.2.2.2.1 bt581.2.2.2.2.1 bt581.2.2.2.2.2.1 bt581.2.2.2.2.2.2.1 bt581.2.2.2.2.2.2.2.1 bt581.2.2.2.2.2.2.2.2.1 bt581.2.2.2.2.2.2.2.2.2.1 bt581.2.2.2.2.2.2.2.2.2.2.1 bt599.1 bt599.2.1 bt599.2.2.1 bt599.2.2.2.1 bt599.2.2.2.2.1 bt599.2.2.2.2.2.1 bt599.2.2.2.2.2.2.1 bt599.2.2.2.2.2.2.2.1 bt599.2.2.2.2.2.2.2.2.1 bt599.2.2.2.2.2.2.2.2.2.1 bt599.2.2.2.2.2.2.2.2.2.2 bt611.1 bt611.2.1 bt611.2.2.1 bt611.2.2.2.1 bt611.2.2.2.2.1 bt611.2.2.2.2.2.1 bt611.2.2.2.2.2.2.1 bt611.2.2.2.2.2.2.2.1 bt611.2.2.2.2.2.2.2.2.1 bt611.2.2.2.2.2.2.2.2.2.1 bt611.2.2.2.2.2.2.2.2.2.2 bt623.1 bt623.2.1 bt623.2.2.1 bt623.2.2.2.1 bt623.2.2.2.2.1 bt623.2.2.2.2.2.1 bt623.2.2.2.2.2.2.1 bt623.2.2.2.2.2.2.2.1 bt623.2.2.2.2.2.2.2.2.1 bt623.2.2.2.2.2.2.2.2.2.1 bt623.2.2.2.2.2.2.2.2.2.2 bt635.1 bt635.2.1 bt635.2.2.1 bt635.2.2.2.1 bt635.2.2.2.2.1 bt635.2.2.2.2.2.1 bt635.2.2.2.2.2.2.1 bt635.2.2.2.2.2.2.2.1 bt635.2.2.2.2.2.2.2.2.1 bt635.2.2.2.2.2.2.2.2.2.1 bt635.2.2.2.2.2.2.2.2.2.2.1 bt648.1 bt648.2.1 bt648.2.2.1 bt648.2.2.2.1 bt648.2.2.2.2.1 bt648.2.2.2.2.2.1 bt648.2.2.2.2.2.2.1 bt648.2.2.2.2.2.2.2.1 bt648.2.2.2.2.2.2.2.2.1 bt648.2.2.2.2.2.2.2.2.2.1 bt648.2.2.2.2.2.2.2.2.2.2) else ((spec_Fade.f k bt611.1 bt611.2.1 bt611.2.2.1 bt611.2.2.2.1 bt611.2.2.2.2.1 bt611.2.2.2.2.2.1 bt611.2.2.2.2.2.2.1 bt611.2.2.2.2.2.2.2.1 bt611.2.2.2.2.2.2.2.2.1 bt611.2.2.2.2.2.2.2.2.2.1 bt611.2.2.2.2.2.2.2.2.2.2).bind fun bt683 => (if (!(bt623.1 == bt683.1) || (!(bt623.2.1 == bt683.2.1) || ((!(bt623.2.2.1 == bt683.2.2.1) || (!(bt623.2.2.2.1 == bt683.2.2.2.1) || (!(bt623.2.2.2.2.1 == bt683.2.2.2.2.1) || (!(bt623.2.2.2.2.2.1 == bt683.2.2.2.2.2.1))))) || (!(bt623.2.2.2.2.2.2.1 == bt683.2.2.2.2.2.2.1) || (!(bt623.2.2.2.2.2.2.2.1 == bt683.2.2.2.2.2.2.2.1) || (!(bt623.2.2.2.2.2.2.2.2.1 == bt683.2.2.2.2.2.2.2.2.1) || (!(bt623.2.2.2.2.2.2.2.2.2.1 == bt683.2.2.2.2.2.2.2.2.2.1) || (!(bt623.2.2.2.2.2.2.2.2.2.2 == bt683.2.2.2.2.2.2.2.2.2.2))))))))) = true then (laws_FnPorts.j0 k true bt581.1 bt581.2.1 bt581.2.2.1 bt581.2.2.2.1 bt581.2.2.2.2.1 bt581.2.2.2.2.2.1 bt581.2.2.2.2.2.2.1 bt581.2.2.2.2.2.2.2.1 bt581.2.2.2.2.2.2.2.2.1 bt581.2.2.2.2.2.2.2.2.2.1 bt581.2.2.2.2.2.2.2.2.2.2.1 bt599.1 bt599.2.1 bt599.2.2.1 bt599.2.2.2.1 bt599.2.2.2.2.1 bt599.2.2.2.2.2.1 bt599.2.2.2.2.2.2.1 bt599.2.2.2.2.2.2.2.1 bt599.2.2.2.2.2.2.2.2.1 bt599.2.2.2.2.2.2.2.2.2.1 bt599.2.2.2.2.2.2.2.2.2.2 bt611.1 bt611.2.1 bt611.2.2.1 bt611.2.2.2.1 bt611.2.2.2.2.1 bt611.2.2.2.2.2.1 bt611.2.2.2.2.2.2.1 bt611.2.2.2.2.2.2.2.1 bt611.2.2.2.2.2.2.2.2.1 bt611.2.2.2.2.2.2.2.2.2.1 bt611.2.2.2.2.2.2.2.2.2.2 bt623.1 bt623.2.1 bt623.2.2.1 bt623.2.2.2.1 bt623.2.2.2.2.1 bt623.2.2.2.2.2.1 bt623.2.2.2.2.2.2.1 bt623.2.2.2.2.2.2.2.1 bt623.2.2.2.2.2.2.2.2.1 bt623.2.2.2.2.2.2.2.2.2.1 bt623.2.2.2.2.2.2.2.2.2.2 bt635.1 bt635.2.1 bt635.2.2.1 bt635.2.2.2.1 bt635.2.2.2.2.1 bt635.2.2.2.2.2.1 bt635.2.2.2.2.2.2.1 bt635.2.2.2.2.2.2.2.1 bt635.2.2.2.2.2.2.2.2.1 bt635.2.2.2.2.2.2.2.2.2.1 bt635.2.2.2.2.2.2.2.2.2.2.1 bt648.1 bt648.2.1 bt648.2.2.1 bt648.2.2.2.1 bt648.2.2.2.2.1 bt648.2.2.2.2.2.1 bt648.2.2.2.2.2.2.1 bt648.2.2.2.2.2.2.2.1 bt648.2.2.2.2.2.2.2.2.1 bt648.2.2.2.2.2.2.2.2.2.1 bt648.2.2.2.2.2.2.2.2.2.2) else ((spec_Turn.f k bt635.1 bt635.2.1 bt635.2.2.1 bt635.2.2.2.1 bt635.2.2.2.2.1 bt635.2.2.2.2.2.1 bt635.2.2.2.2.2.2.1 bt635.2.2.2.2.2.2.2.1 bt635.2.2.2.2.2.2.2.2.1 bt635.2.2.2.2.2.2.2.2.2.1 bt635.2.2.2.2.2.2.2.2.2.2.1 bt635.2.2.2.2.2.2.2.2.2.2.2).bind fun bt694 => (if (!(bt648.1 == bt694.1) || (!(bt648.2.1 == bt694.2.1) || ((!(bt648.2.2.1 == bt694.2.2.1) || (!(bt648.2.2.2.1 == bt694.2.2.2.1) || (!(bt648.2.2.2.2.1 == bt694.2.2.2.2.1) || (!(bt648.2.2.2.2.2.1 == bt694.2.2.2.2.2.1))))) || (!(bt648.2.2.2.2.2.2.1 == bt694.2.2.2.2.2.2.1) || (!(bt648.2.2.2.2.2.2.2.1 == bt694.2.2.2.2.2.2.2.1) || (!(bt648.2.2.2.2.2.2.2.2.1 == bt694.2.2.2.2.2.2.2.2.1) || (!(bt648.2.2.2.2.2.2.2.2.2.1 == bt694.2.2.2.2.2.2.2.2.2.1) || (!(bt648.2.2.2.2.2.2.2.2.2.2 == bt694.2.2.2.2.2.2.2.2.2.2))))))))) = true then (laws_FnPorts.j0 k true bt581.1 bt581.2.1 bt581.2.2.1 bt581.2.2.2.1 bt581.2.2.2.2.1 bt581.2.2.2.2.2.1 bt581.2.2.2.2.2.2.1 bt581.2.2.2.2.2.2.2.1 bt581.2.2.2.2.2.2.2.2.1 bt581.2.2.2.2.2.2.2.2.2.1 bt581.2.2.2.2.2.2.2.2.2.2.1 bt599.1 bt599.2.1 bt599.2.2.1 bt599.2.2.2.1 bt599.2.2.2.2.1 bt599.2.2.2.2.2.1 bt599.2.2.2.2.2.2.1 bt599.2.2.2.2.2.2.2.1 bt599.2.2.2.2.2.2.2.2.1 bt599.2.2.2.2.2.2.2.2.2.1 bt599.2.2.2.2.2.2.2.2.2.2 bt611.1 bt611.2.1 bt611.2.2.1 bt611.2.2.2.1 bt611.2.2.2.2.1 bt611.2.2.2.2.2.1 bt611.2.2.2.2.2.2.1 bt611.2.2.2.2.2.2.2.1 bt611.2.2.2.2.2.2.2.2.1 bt611.2.2.2.2.2.2.2.2.2.1 bt611.2.2.2.2.2.2.2.2.2.2 bt623.1 bt623.2.1 bt623.2.2.1 bt623.2.2.2.1 bt623.2.2.2.2.1 bt623.2.2.2.2.2.1 bt623.2.2.2.2.2.2.1 bt623.2.2.2.2.2.2.2.1 bt623.2.2.2.2.2.2.2.2.1 bt623.2.2.2.2.2.2.2.2.2.1 bt623.2.2.2.2.2.2.2.2.2.2 bt635.1 bt635.2.1 bt635.2.2.1 bt635.2.2.2.1 bt635.2.2.2.2.1 bt635.2.2.2.2.2.1 bt635.2.2.2.2.2.2.1 bt635.2.2.2.2.2.2.2.1 bt635.2.2.2.2.2.2.2.2.1 bt635.2.2.2.2.2.2.2.2.2.1 bt635.2.2.2.2.2.2.2.2.2.2.1 bt648.1 bt648.2.1 bt648.2.2.1 bt648.2.2.2.1 bt648.2.2.2.2.1 bt648.2.2.2.2.2.1 bt648.2.2.2.2.2.2.1 bt648.2.2.2.2.2.2.2.1 bt648.2.2.2.2.2.2.2.2.1 bt648.2.2.2.2.2.2.2.2.2.1 bt648.2.2.2.2.2.2.2.2.2.2) else ((impl_PortOk.f k bt660.1 bt660.2.1 bt660.2.2.1 bt660.2.2.2.1 bt660.2.2.2.2.1 bt660.2.2.2.2.2.1 bt660.2.2.2.2.2.2.1 bt660.2.2.2.2.2.2.2.1 bt660.2.2.2.2.2.2.2.2.1 bt660.2.2.2.2.2.2.2.2.2.1 bt660.2.2.2.2.2.2.2.2.2.2).bind fun t705 => ((spec_PortOk.f k bt660.1 bt660.2.1 bt660.2.2.1 bt660.2.2.2.1 bt660.2.2.2.2.1 bt660.2.2.2.2.2.1 bt660.2.2.2.2.2.2.1 bt660.2.2.2.2.2.2.2.1 bt660.2.2.2.2.2.2.2.2.1 bt660.2.2.2.2.2.2.2.2.2.1 bt660.2.2.2.2.2.2.2.2.2.2).bind fun t706 => (laws_FnPorts.j0 k (t705 != t706) bt581.1 bt581.2.1 bt581.2.2.1 bt581.2.2.2.1 bt581.2.2.2.2.1 bt581.2.2.2.2.2.1 bt581.2.2.2.2.2.2.1 bt581.2.2.2.2.2.2.2.1 bt581.2.2.2.2.2.2.2.2.1 bt581.2.2.2.2.2.2.2.2.2.1 bt581.2.2.2.2.2.2.2.2.2.2.1 bt599.1 bt599.2.1 bt599.2.2.1 bt599.2.2.2.1 bt599.2.2.2.2.1 bt599.2.2.2.2.2.1 bt599.2.2.2.2.2.2.1 bt599.2.2.2.2.2.2.2.1 bt599.2.2.2.2.2.2.2.2.1 bt599.2.2.2.2.2.2.2.2.2.1 bt599.2.2.2.2.2.2.2.2.2.2 bt611.1 bt611.2.1 bt611.2.2.1 bt611.2.2.2.1 bt611.2.2.2.2.1 bt611.2.2.2.2.2.1 bt611.2.2.2.2.2.2.1 bt611.2.2.2.2.2.2.2.1 bt611.2.2.2.2.2.2.2.2.1 bt611.2.2.2.2.2.2.2.2.2.1 bt611.2.2.2.2.2.2.2.2.2.2 bt623.1 bt623.2.1 bt623.2.2.1 bt623.2.2.2.1 bt623.2.2.2.2.1 bt623.2.2.2.2.2.1 bt623.2.2.2.2.2.2.1 bt623.2.2.2.2.2.2.2.1 bt623.2.2.2.2.2.2.2.2.1 bt623.2.2.2.2.2.2.2.2.2.1 bt623.2.2.2.2.2.2.2.2.2.2 bt635.1 bt635.2.1 bt635.2.2.1 bt635.2.2.2.1 bt635.2.2.2.2.1 bt635.2.2.2.2.2.1 bt635.2.2.2.2.2.2.1 bt635.2.2.2.2.2.2.2.1 bt635.2.2.2.2.2.2.2.2.1 bt635.2.2.2.2.2.2.2.2.2.1 bt635.2.2.2.2.2.2.2.2.2.2.1 bt648.1 bt648.2.1 bt648.2.2.1 bt648.2.2.2.1 bt648.2.2.2.2.1 bt648.2.2.2.2.2.1 bt648.2.2.2.2.2.2.1 bt648.2.2.2.2.2.2.2.1 bt648.2.2.2.2.2.2.2.2.1 bt648.2.2.2.2.2.2.2.2.2.1 bt648.2.2.2.2.2.2.2.2.2.2)))))))))))))))))
theorem laws_FnPorts.mono_l : ∀ k, (∀ y0 y1 y2 y3 y4 y5 y6 y7 y8 y9 y10 y11 y12 y13 y14 y15 y16 y17 y18 y19 y20 y21 y22 y23 y24 y25 y26 y27 y28 y29 y30 y31 y32 y33 y34 y35 y36 y37 y38 y39 y40 y41 y42 y43 y44 y45 y46 y47 y48 y49 y50 y51 y52 y53 y54 y55 y56 y57 y58 y59 y60 y61 y62 y63 y64 y65 y66, LeO (laws_FnPorts.j0 k y0 y1 y2 y3 y4 y5 y6 y7 y8 y9 y10 y11 y12 y13 y14 y15 y16 y17 y18 y19 y20 y21 y22 y23 y24 y25 y26 y27 y28 y29 y30 y31 y32 y33 y34 y35 y36 y37 y38 y39 y40 y41 y42 y43 y44 y45 y46 y47 y48 y49 y50 y51 y52 y53 y54 y55 y56 y57 y58 y59 y60 y61 y62 y63 y64 y65 y66) (laws_FnPorts.j0 (k + 1) y0 y1 y2 y3 y4 y5 y6 y7 y8 y9 y10 y11 y12 y13 y14 y15 y16 y17 y18 y19 y20 y21 y22 y23 y24 y25 y26 y27 y28 y29 y30 y31 y32 y33 y34 y35 y36 y37 y38 y39 y40 y41 y42 y43 y44 y45 y46 y47 y48 y49 y50 y51 y52 y53 y54 y55 y56 y57 y58 y59 y60 y61 y62 y63 y64 y65 y66)) ∧ (∀ y0 y1 y2 y3 y4 y5 y6 y7 y8 y9 y10 y11 y12 y13 y14 y15 y16 y17 y18 y19 y20 y21 y22, LeO (laws_FnPorts.j1 k y0 y1 y2 y3 y4 y5 y6 y7 y8 y9 y10 y11 y12 y13 y14 y15 y16 y17 y18 y19 y20 y21 y22) (laws_FnPorts.j1 (k + 1) y0 y1 y2 y3 y4 y5 y6 y7 y8 y9 y10 y11 y12 y13 y14 y15 y16 y17 y18 y19 y20 y21 y22))
 | 0 => ⟨fun _ _ _ _ _ _ _ _ _ _ _ _ _ _ _ _ _ _ _ _ _ _ _ _ _ _ _ _ _ _ _ _ _ _ _ _ _ _ _ _ _ _ _ _ _ _ _ _ _ _ _ _ _ _ _ _ _ _ _ _ _ _ _ _ _ _ _ r h => by simp [laws_FnPorts.j0] at h, fun _ _ _ _ _ _ _ _ _ _ _ _ _ _ _ _ _ _ _ _ _ _ _ r h => by simp [laws_FnPorts.j1] at h⟩
 | k + 1 => by
  obtain ⟨ih0, ih1⟩ := laws_FnPorts.mono_l k
  refine ⟨?_, ?_⟩
  ·intro y0 y1 y2 y3 y4 y5 y6 y7 y8 y9 y10 y11 y12 y13 y14 y15 y16 y17 y18 y19 y20 y21 y22 y23 y24 y25 y26 y27 y28 y29 y30 y31 y32 y33 y34 y35 y36 y37 y38 y39 y40 y41 y42 y43 y44 y45 y46 y47 y48 y49 y50 y51 y52 y53 y54 y55 y56 y57 y58 y59 y60 y61 y62 y63 y64 y65 y66
   unfold laws_FnPorts.j0
   repeat' first
   | (with_reducible exact ih0 _ _ _ _ _ _ _ _ _ _ _ _ _ _ _ _ _ _ _ _ _ _ _ _ _ _ _ _ _ _ _ _ _ _ _ _ _ _ _ _ _ _ _ _ _ _ _ _ _ _ _ _ _ _ _ _ _ _ _ _ _ _ _ _ _ _ _)
   | (with_reducible exact ih1 _ _ _ _ _ _ _ _ _ _ _ _ _ _ _ _ _ _ _ _ _ _ _)
   | (with_reducible exact impl_Claim.mono _ _ _ _ _ _ _ _ _ _ _ _ _ _ _ _ _)
   | (with_reducible exact impl_Fade.mono _ _ _ _ _ _ _ _ _ _ _ _)
   | (with_reducible exact impl_PortOk.mono _ _ _ _ _ _ _ _ _ _ _ _)
   | (with_reducible exact impl_Turn.mono _ _ _ _ _ _ _ _ _ _ _ _ _)
   | (with_reducible exact spec_Claim.mono _ _ _ _ _ _ _ _ _ _ _ _ _ _ _ _ _)
   | (with_reducible exact spec_DrawClaim.mono _ _)
   | (with_reducible exact spec_DrawFade.mono _ _)
   | (with_reducible exact spec_DrawPortOk.mono _ _)
   | (with_reducible exact spec_DrawTurn.mono _ _)
   | (with_reducible exact spec_Fade.mono _ _ _ _ _ _ _ _ _ _ _ _)
   | (with_reducible exact spec_PortOk.mono _ _ _ _ _ _ _ _ _ _ _ _)
   | (with_reducible exact spec_Turn.mono _ _ _ _ _ _ _ _ _ _ _ _ _)
   | (with_reducible exact LeO.refl _)
   | (with_reducible exact LeO.none _)
   | (with_reducible refine LeO.ite ?_ ?_)
   | (with_reducible refine LeO.bind ?_ (fun _ => ?_))
   | exact ih0 _ _ _ _ _ _ _ _ _ _ _ _ _ _ _ _ _ _ _ _ _ _ _ _ _ _ _ _ _ _ _ _ _ _ _ _ _ _ _ _ _ _ _ _ _ _ _ _ _ _ _ _ _ _ _ _ _ _ _ _ _ _ _ _ _ _ _
   | exact ih1 _ _ _ _ _ _ _ _ _ _ _ _ _ _ _ _ _ _ _ _ _ _ _
   | exact impl_Claim.mono _ _ _ _ _ _ _ _ _ _ _ _ _ _ _ _ _
   | exact impl_Fade.mono _ _ _ _ _ _ _ _ _ _ _ _
   | exact impl_PortOk.mono _ _ _ _ _ _ _ _ _ _ _ _
   | exact impl_Turn.mono _ _ _ _ _ _ _ _ _ _ _ _ _
   | exact spec_Claim.mono _ _ _ _ _ _ _ _ _ _ _ _ _ _ _ _ _
   | exact spec_DrawClaim.mono _ _
   | exact spec_DrawFade.mono _ _
   | exact spec_DrawPortOk.mono _ _
   | exact spec_DrawTurn.mono _ _
   | exact spec_Fade.mono _ _ _ _ _ _ _ _ _ _ _ _
   | exact spec_PortOk.mono _ _ _ _ _ _ _ _ _ _ _ _
   | exact spec_Turn.mono _ _ _ _ _ _ _ _ _ _ _ _ _
   | exact LeO.none _
   | refine LeO.ite ?_ ?_
   | refine LeO.bind ?_ (fun _ => ?_)
  ·intro y0 y1 y2 y3 y4 y5 y6 y7 y8 y9 y10 y11 y12 y13 y14 y15 y16 y17 y18 y19 y20 y21 y22
   unfold laws_FnPorts.j1
   repeat' first
   | (with_reducible exact ih0 _ _ _ _ _ _ _ _ _ _ _ _ _ _ _ _ _ _ _ _ _ _ _ _ _ _ _ _ _ _ _ _ _ _ _ _ _ _ _ _ _ _ _ _ _ _ _ _ _ _ _ _ _ _ _ _ _ _ _ _ _ _ _ _ _ _ _)
   | (with_reducible exact ih1 _ _ _ _ _ _ _ _ _ _ _ _ _ _ _ _ _ _ _ _ _ _ _)
   | (with_reducible exact impl_Claim.mono _ _ _ _ _ _ _ _ _ _ _ _ _ _ _ _ _)
   | (with_reducible exact impl_Fade.mono _ _ _ _ _ _ _ _ _ _ _ _)
   | (with_reducible exact impl_PortOk.mono _ _ _ _ _ _ _ _ _ _ _ _)
   | (with_reducible exact impl_Turn.mono _ _ _ _ _ _ _ _ _ _ _ _ _)
   | (with_reducible exact spec_Claim.mono _ _ _ _ _ _ _ _ _ _ _ _ _ _ _ _ _)
   | (with_reducible exact spec_DrawClaim.mono _ _)
   | (with_reducible exact spec_DrawFade.mono _ _)
   | (with_reducible exact spec_DrawPortOk.mono _ _)
   | (with_reducible exact spec_DrawTurn.mono _ _)
   | (with_reducible exact spec_Fade.mono _ _ _ _ _ _ _ _ _ _ _ _)
   | (with_reducible exact spec_PortOk.mono _ _ _ _ _ _ _ _ _ _ _ _)
   | (with_reducible exact spec_Turn.mono _ _ _ _ _ _ _ _ _ _ _ _ _)
   | (with_reducible exact LeO.refl _)
   | (with_reducible exact LeO.none _)
   | (with_reducible refine LeO.ite ?_ ?_)
   | (with_reducible refine LeO.bind ?_ (fun _ => ?_))
   | exact ih0 _ _ _ _ _ _ _ _ _ _ _ _ _ _ _ _ _ _ _ _ _ _ _ _ _ _ _ _ _ _ _ _ _ _ _ _ _ _ _ _ _ _ _ _ _ _ _ _ _ _ _ _ _ _ _ _ _ _ _ _ _ _ _ _ _ _ _
   | exact ih1 _ _ _ _ _ _ _ _ _ _ _ _ _ _ _ _ _ _ _ _ _ _ _
   | exact impl_Claim.mono _ _ _ _ _ _ _ _ _ _ _ _ _ _ _ _ _
   | exact impl_Fade.mono _ _ _ _ _ _ _ _ _ _ _ _
   | exact impl_PortOk.mono _ _ _ _ _ _ _ _ _ _ _ _
   | exact impl_Turn.mono _ _ _ _ _ _ _ _ _ _ _ _ _
   | exact spec_Claim.mono _ _ _ _ _ _ _ _ _ _ _ _ _ _ _ _ _
   | exact spec_DrawClaim.mono _ _
   | exact spec_DrawFade.mono _ _
   | exact spec_DrawPortOk.mono _ _
   | exact spec_DrawTurn.mono _ _
   | exact spec_Fade.mono _ _ _ _ _ _ _ _ _ _ _ _
   | exact spec_PortOk.mono _ _ _ _ _ _ _ _ _ _ _ _
   | exact spec_Turn.mono _ _ _ _ _ _ _ _ _ _ _ _ _
   | exact LeO.none _
   | refine LeO.ite ?_ ?_
   | refine LeO.bind ?_ (fun _ => ?_)
theorem laws_FnPorts.mono : ∀ a0 k, LeO (laws_FnPorts.f k a0) (laws_FnPorts.f (k + 1) a0) := by
 intro a0 k
 obtain ⟨ih0, ih1⟩ := laws_FnPorts.mono_l k
 unfold laws_FnPorts.f
 repeat' first
   | (with_reducible exact ih0 _ _ _ _ _ _ _ _ _ _ _ _ _ _ _ _ _ _ _ _ _ _ _ _ _ _ _ _ _ _ _ _ _ _ _ _ _ _ _ _ _ _ _ _ _ _ _ _ _ _ _ _ _ _ _ _ _ _ _ _ _ _ _ _ _ _ _)
   | (with_reducible exact ih1 _ _ _ _ _ _ _ _ _ _ _ _ _ _ _ _ _ _ _ _ _ _ _)
   | (with_reducible exact impl_Claim.mono _ _ _ _ _ _ _ _ _ _ _ _ _ _ _ _ _)
   | (with_reducible exact impl_Fade.mono _ _ _ _ _ _ _ _ _ _ _ _)
   | (with_reducible exact impl_PortOk.mono _ _ _ _ _ _ _ _ _ _ _ _)
   | (with_reducible exact impl_Turn.mono _ _ _ _ _ _ _ _ _ _ _ _ _)
   | (with_reducible exact spec_Claim.mono _ _ _ _ _ _ _ _ _ _ _ _ _ _ _ _ _)
   | (with_reducible exact spec_DrawClaim.mono _ _)
   | (with_reducible exact spec_DrawFade.mono _ _)
   | (with_reducible exact spec_DrawPortOk.mono _ _)
   | (with_reducible exact spec_DrawTurn.mono _ _)
   | (with_reducible exact spec_Fade.mono _ _ _ _ _ _ _ _ _ _ _ _)
   | (with_reducible exact spec_PortOk.mono _ _ _ _ _ _ _ _ _ _ _ _)
   | (with_reducible exact spec_Turn.mono _ _ _ _ _ _ _ _ _ _ _ _ _)
   | (with_reducible exact LeO.refl _)
   | (with_reducible exact LeO.none _)
   | (with_reducible refine LeO.ite ?_ ?_)
   | (with_reducible refine LeO.bind ?_ (fun _ => ?_))
   | exact ih0 _ _ _ _ _ _ _ _ _ _ _ _ _ _ _ _ _ _ _ _ _ _ _ _ _ _ _ _ _ _ _ _ _ _ _ _ _ _ _ _ _ _ _ _ _ _ _ _ _ _ _ _ _ _ _ _ _ _ _ _ _ _ _ _ _ _ _
   | exact ih1 _ _ _ _ _ _ _ _ _ _ _ _ _ _ _ _ _ _ _ _ _ _ _
   | exact impl_Claim.mono _ _ _ _ _ _ _ _ _ _ _ _ _ _ _ _ _
   | exact impl_Fade.mono _ _ _ _ _ _ _ _ _ _ _ _
   | exact impl_PortOk.mono _ _ _ _ _ _ _ _ _ _ _ _
   | exact impl_Turn.mono _ _ _ _ _ _ _ _ _ _ _ _ _
   | exact spec_Claim.mono _ _ _ _ _ _ _ _ _ _ _ _ _ _ _ _ _
   | exact spec_DrawClaim.mono _ _
   | exact spec_DrawFade.mono _ _
   | exact spec_DrawPortOk.mono _ _
   | exact spec_DrawTurn.mono _ _
   | exact spec_Fade.mono _ _ _ _ _ _ _ _ _ _ _ _
   | exact spec_PortOk.mono _ _ _ _ _ _ _ _ _ _ _ _
   | exact spec_Turn.mono _ _ _ _ _ _ _ _ _ _ _ _ _
   | exact LeO.none _
   | refine LeO.ite ?_ ?_
   | refine LeO.bind ?_ (fun _ => ?_)
def laws_FnPorts.T10 : Bool × List (List Nat × List Nat) := (true, [([], []), ([], []), ([], []), ([], []), ([1, 2, 3], [1, 2, 3]), ([0, 4], [0, 4]), ([5, 4], [5]), ([6], [6]), ([6], [6]), ([8, 6, 6], [6, 8]), ([7, 9, 6], [6, 7, 9]), ([6, 10], [6, 10]), ([11, 9], [11]), ([12], [12]), ([12], [12]), ([12], [12]), ([14, 15, 12, 12], [12, 14, 15]), ([13, 16, 12], [12, 13, 16]), ([12, 17], [12, 17]), ([18, 16], [18]), ([19], [19]), ([20, 19, 19], [19, 20]), ([19], [19]), ([22, 21, 19], [19, 22]), ([21, 23, 19], [19, 21, 23]), ([19, 24], [19, 24])])
def laws_FnPorts.B10 : List Nat := [0, 0, 0, 0, 14, 31, 63, 127, 127, 383, 1023, 2047, 4095, 8191, 8191, 8191, 57343, 131071, 262143, 524287, 1048575, 2097151, 1048575, 8388607, 16777215, 33554431]
theorem laws_FnPorts.tab10 : rtab .any (opsOf Try.f4 10) = laws_FnPorts.T10 := by kernel_rfl
theorem laws_FnPorts.bits10 : waitsOk laws_FnPorts.T10.2 laws_FnPorts.B10 = true := by kernel_rfl
theorem laws_FnPorts.j0_no : ∀ (k : Nat) x1 x2 x3 x4 x5 x6 x7 x8 x9 x10 x11 x12 x13 x14 x15 x16 x17 x18 x19 x20 x21 x22 x23 x24 x25 x26 x27 x28 x29 x30 x31 x32 x33 x34 x35 x36 x37 x38 x39 x40 x41 x42 x43 x44 x45 x46 x47 x48 x49 x50 x51 x52 x53 x54 x55 x56 x57 x58 x59 x60 x61 x62 x63 x64 x65 x66, laws_FnPorts.j0 k true x1 x2 x3 x4 x5 x6 x7 x8 x9 x10 x11 x12 x13 x14 x15 x16 x17 x18 x19 x20 x21 x22 x23 x24 x25 x26 x27 x28 x29 x30 x31 x32 x33 x34 x35 x36 x37 x38 x39 x40 x41 x42 x43 x44 x45 x46 x47 x48 x49 x50 x51 x52 x53 x54 x55 x56 x57 x58 x59 x60 x61 x62 x63 x64 x65 x66 ≠ some true := by
 intro k
 cases k <;> intros <;> simp [laws_FnPorts.j0]
theorem laws_FnPorts.j1_no : ∀ (k : Nat) x1 x2 x3 x4 x5 x6 x7 x8 x9 x10 x11 x12 x13 x14 x15 x16 x17 x18 x19 x20 x21 x22, laws_FnPorts.j1 k true x1 x2 x3 x4 x5 x6 x7 x8 x9 x10 x11 x12 x13 x14 x15 x16 x17 x18 x19 x20 x21 x22 ≠ some true := by
 intro k
 cases k <;> intros <;> simp [laws_FnPorts.j1]
set_option maxHeartbeats 60000000 in
set_option maxRecDepth 100000 in
theorem laws_FnPorts.calls (k : Nat) (A0 : Option Addr) (c0 : Nat) (l0 : List Int) (w : World) (hr0 : Kd.C (Kd.int .u8) w A0 l0.length l0) (hc0 : l0.length ≤ c0) (h : laws_FnPorts.f k l0 = some true) :
  Calls Try.prog 4 #[.slice A0 l0.length c0] w fun e w' => e = .returned (.bool true) ∧ Below w.heap.size w w' := by
 have hu38 := Try.underlying38
 have hu36 := Try.underlying36
 have HR0 := aM hr0
 have HC0 := aM hc0
 clear hr0 hc0
 have HB := aM (Below.refl w.heap.size w)
 have H : ((laws_big.f l0).bind fun t580 => (if t580 = true then (some true) else ((spec_DrawClaim.f k l0).bind fun bt581 => ((impl_Claim.f k bt581.1 bt581.2.1 bt581.2.2.1 bt581.2.2.2.1 bt581.2.2.2.2.1 bt581.2.2.2.2.2.1 bt581.2.2.2.2.2.2.1 bt581.2.2.2.2.2.2.2.1 bt581.2.2.2.2.2.2.2.2.1 bt581.2.2.2.2.2.2.2.2.2.1 bt581.2.2.2.2.2.2.2.2.2.2.1 bt581.2.2.2.2.2.2.2.2.2.2.2.1 bt581.2.2.2.2.2.2.2.2.2.2.2.2.1 bt581.2.2.2.2.2.2.2.2.2.2.2.2.2.1 bt581.2.2.2.2.2.2.2.2.2.2.2.2.2.2.1 bt581.2.2.2.2.2.2.2.2.2.2.2.2.2.2.2).bind fun bt599 => ((spec_DrawFade.f k l0).bind fun bt611 => ((impl_Fade.f k bt611.1 bt611.2.1 bt611.2.2.1 bt611.2.2.2.1 bt611.2.2.2.2.1 bt611.2.2.2.2.2.1 bt611.2.2.2.2.2.2.1 bt611.2.2.2.2.2.2.2.1 bt611.2.2.2.2.2.2.2.2.1 bt611.2.2.2.2.2.2.2.2.2.1 bt611.2.2.2.2.2.2.2.2.2.2).bind fun bt623 => ((spec_DrawTurn.f k l0).bind fun bt635 => ((impl_Turn.f k bt635.1 bt635.2.1 bt635.2.2.1 bt635.2.2.2.1 bt635.2.2.2.2.1 bt635.2.2.2.2.2.1 bt635.2.2.2.2.2.2.1 bt635.2.2.2.2.2.2.2.1 bt635.2.2.2.2.2.2.2.2.1 bt635.2.2.2.2.2.2.2.2.2.1 bt635.2.2.2.2.2.2.2.2.2.2.1 bt635.2.2.2.2.2.2.2.2.2.2.2).bind fun bt648 => ((spec_DrawPortOk.f k l0).bind fun bt660 => ((spec_Claim.f k bt581.1 bt581.2.1 bt581.2.2.1 bt581.2.2.2.1 bt581.2.2.2.2.1 bt581.2.2.2.2.2.1 bt581.2.2.2.2.2.2.1 bt581.2.2.2.2.2.2.2.1 bt581.2.2.2.2.2.2.2.2.1 bt581.2.2.2.2.2.2.2.2.2.1 bt581.2.2.2.2.2.2.2.2.2.2.1 bt581.2.2.2.2.2.2.2.2.2.2.2.1 bt581.2.2.2.2.2.2.2.2.2.2.2.2.1 bt581.2.2.2.2.2.2.2.2.2.2.2.2.2.1 bt581.2.2.2.2.2.2.2.2.2.2.2.2.2.2.1 bt581.2.2.2.2.2.2.2.2.2.2.2.2.2.2.2).bind fun bt672 => (if (!(bt599.1 == bt672.1) || (!(bt599.2.1 == bt672.2.1) || ((!(bt599.2.2.1 == bt672.2.2.1) || (!(bt599.2.2.2.1 == bt672.2.2.2.1) || (!(bt599.2.2.2.2.1 == bt672.2.2.2.2.1) || (!(bt599.2.2.2.2.2.1 == bt672.2.2.2.2.2.1))))) || (!(bt599.2.2.2.2.2.2.1 == bt672.2.2.2.2.2.2.1) || (!(bt599.2.2.2.2.2.2.2.1 == bt672.2.2.2.2.2.2.2.1) || (!(bt599.2.2.2.2.2.2.2.2.1 == bt672.2.2.2.2.2.2.2.2.1) || (!(bt599.2.2.2.2.2.2.2.2.2.1 == bt672.2.2.2.2.2.2.2.2.2.1) || (!(bt599.2.2.2.2.2.2.2.2.2.2 == bt672.2.2.2.2.2.2.2.2.2.2))))))))) = true then (laws_FnPorts.j0 k true bt581.1 bt581.2.1 bt581.2.2.1 bt581.2.2.2.1 bt581.2.2.2.2.1 bt581.2.2.2.2.2.1 bt581.2.2.2.2.2.2.1 bt581.2.2.2.2.2.2.2.1 bt581.2.2.2.2.2.2.2.2.1 bt581.2.2.2.2.2.2.2.2.2.1 bt581.2.2.2.2.2.2.2.2.2.2.1 bt599.1 bt599.2.1 bt599.2.2.1 bt599.2.2.2.1 bt599.2.2.2.2.1 bt599.2.2.2.2.2.1 bt599.2.2.2.2.2.2.1 bt599.2.2.2.2.2.2.2.1 bt599.2.2.2.2.2.2.2.2.1 bt599.2.2.2.2.2.2.2.2.2.1 bt599.2.2.2.2.2.2.2.2.2.2 bt611.1 bt611.2.1 bt611.2.2.1 bt611.2.2.2.1 bt611.2.2.2.2.1 bt611.2.2.2.2.2.1 bt611.2.2.2.2.2.2.1 bt611.2.2.2.2.2.2.2.1 bt611.2.2.2.2.2.2.2.2.1 bt611.2.2.2.2.2.2.2.2.2.1 bt611.2.2.2.2.2.2.2.2.2.2 bt623.1 bt623.2.1 bt623.2.2.1 bt623.2.2.2.1 bt623.2.2.2.2.1 bt623.2.2.2.2.2.1 bt623.2.2.2.2.2.2.1 bt623.2.2.2.2.2.2.2.1 bt623.2.2.2.2.2.2.2.2.1 bt623.2.2.2.2.2.2.2.2.2.1 bt623.2.2.2.2.2.2.2.2.2.2 bt635.1 bt635.2.1 bt635.2.2.1 bt635.2.2.2.1 bt635.2.2.2.2.1 bt635.2.2.2.2.2.1 bt635.2.2.2.2.2.2.1 bt635.2.2.2.2.2.2.2.1 bt635.2.2.2.2.2.2.2.2.1 bt635.2.2.2.2.2.2.2.2.2.1 bt635.2.2.2.2.2.2.2.2.2.2.1 bt648.1 bt648.2.1 bt648.2.2.1 bt648.2.2.2.1 bt648.2.2.2.2.1 bt648.2.2.2.2.2.1 bt648.2.2.2.2.2.2.1 bt648.2.2.2.2.2.2.2.1 bt648.2.2.2.2.2.2.2.2.1 bt648.2.2.2.2.2.2.2.2.2.1 bt648.2.2.2.2.2.2.2.2.2.2) else ((spec_Fade.f k bt611.1 bt611.2.1 bt611.2.2.1 bt611.2.2.2.1 bt611.2.2.2.2.1 bt611.2.2.2.2.2.1 bt611.2.2.2.2.2.2.1 bt611.2.2.2.2.2.2.2.1 bt611.2.2.2.2.2.2.2.2.1 bt611.2.2.2.2.2.2.2.2.2.1 bt611.2.2.2.2.2.2.2.2.2.2).bind fun bt683 => (if (!(bt623.1 == bt683.1) || (!(bt623.2.1 == bt683.2.1) || ((!(bt623.2.2.1 == bt683.2.2.1) || (!(bt623.2.2.2.1 == bt683.2.2.2.1) || (!(bt623.2.2.2.2.1 == bt683.2.2.2.2.1) || (!(bt623.2.2.2.2.2.1 == bt683.2.2.2.2.2.1))))) || (!(bt623.2.2.2.2.2.2.1 == bt683.2.2.2.2.2.2.1) || (!(bt623.2.2.2.2.2.2.2.1 == bt683.2.2.2.2.2.2.2.1) || (!(bt623.2.2.2.2.2.2.2.2.1 == bt683.2.2.2.2.2.2.2.2.1) || (!(bt623.2.2.2.2.2.2.2.2.2.1 == bt683.2.2.2.2.2.2.2.2.2.1) || (!(bt623.2.2.2.2.2.2.2.2.2.2 == bt683.2.2.2.2.2.2.2.2.2.2))))))))) = true then (laws_FnPorts.j0 k true bt581.1 bt581.2.1 bt581.2.2.1 bt581.2.2.2.1 bt581.2.2.2.2.1 bt581.2.2.2.2.2.1 bt581.2.2.2.2.2.2.1 bt581.2.2.2.2.2.2.2.1 bt581.2.2.2.2.2.2.2.2.1 bt581.2.2.2.2.2.2.2.2.2.1 bt581.2.2.2.2.2.2.2.2.2.2.1 bt599.1 bt599.2.1 bt599.2.2.1 bt599.2.2.2.1 bt599.2.2.2.2.1 bt599.2.2.2.2.2.1 bt599.2.2.2.2.2.2.1 bt599.2.2.2.2.2.2.2.1 bt599.2.2.2.2.2.2.2.2.1 bt599.2.2.2.2.2.2.2.2.2.1 bt599.2.2.2.2.2.2.2.2.2.2 bt611.1 bt611.2.1 bt611.2.2.1 bt611.2.2.2.1 bt611.2.2.2.2.1 bt611.2.2.2.2.2.1 bt611.2.2.2.2.2.2.1 bt611.2.2.2.2.2.2.2.1 bt611.2.2.2.2.2.2.2.2.1 bt611.2.2.2.2.2.2.2.2.2.1 bt611.2.2.2.2.2.2.2.2.2.2 bt623.1 bt623.2.1 bt623.2.2.1 bt623.2.2.2.1 bt623.2.2.2.2.1 bt623.2.2.2.2.2.1 bt623.2.2.2.2.2.2.1 bt623.2.2.2.2.2.2.2.1 bt623.2.2.2.2.2.2.2.2.1 bt623.2.2.2.2.2.2.2.2.2.1 bt623.2.2.2.2.2.2.2.2.2.2 bt635.1 bt635.2.1 bt635.2.2.1 bt635.2.2.2.1 bt635.2.2.2.2.1 bt635.2.2.2.2.2.1 bt635.2.2.2.2.2.2.1 bt635.2.2.2.2.2.2.2.1 bt635.2.2.2.2.2.2.2.2.1 bt635.2.2.2.2.2.2.2.2.2.1 bt635.2.2.2.2.2.2.2.2.2.2.1 bt648.1 bt648.2.1 bt648.2.2.1 bt648.2.2.2.1 bt648.2.2.2.2.1 bt648.2.2.2.2.2.1 bt648.2.2.2.2.2.2.1 bt648.2.2.2.2.2.2.2.1 bt648.2.2.2.2.2.2.2.2.1 bt648.2.2.2.2.2.2.2.2.2.1 bt648.2.2.2.2.2.2.2.2.2.2) else ((spec_Turn.f k bt635.1 bt635.2.1 bt635.2.2.1 bt635.2.2.2.1 bt635.2.2.2.2.1 bt635.2.2.2.2.2.1 bt635.2.2.2.2.2.2.1 bt635.2.2.2.2.2.2.2.1 bt635.2.2.2.2.2.2.2.2.1 bt635.2.2.2.2.2.2.2.2.2.1 bt635.2.2.2.2.2.2.2.2.2.2.1 bt635.2.2.2.2.2.2.2.2.2.2.2).bind fun bt694 => (if (!(bt648.1 == bt694.1) || (!(bt648.2.1 == bt694.2.1) || ((!(bt648.2.2.1 == bt694.2.2.1) || (!(bt648.2.2.2.1 == bt694.2.2.2.1) || (!(bt648.2.2.2.2.1 == bt694.2.2.2.2.1) || (!(bt648.2.2.2.2.2.1 == bt694.2.2.2.2.2.1))))) || (!(bt648.2.2.2.2.2.2.1 == bt694.2.2.2.2.2.2.1) || (!(bt648.2.2.2.2.2.2.2.1 == bt694.2.2.2.2.2.2.2.1) || (!(bt648.2.2.2.2.2.2.2.2.1 == bt694.2.2.2.2.2.2.2.2.1) || (!(bt648.2.2.2.2.2.2.2.2.2.1 == bt694.2.2.2.2.2.2.2.2.2.1) || (!(bt648.2.2.2.2.2.2.2.2.2.2 == bt694.2.2.2.2.2.2.2.2.2.2))))))))) = true then (laws_FnPorts.j0 k true bt581.1 bt581.2.1 bt581.2.2.1 bt581.2.2.2.1 bt581.2.2.2.2.1 bt581.2.2.2.2.2.1 bt581.2.2.2.2.2.2.1 bt581.2.2.2.2.2.2.2.1 bt581.2.2.2.2.2.2.2.2.1 bt581.2.2.2.2.2.2.2.2.2.1 bt581.2.2.2.2.2.2.2.2.2.2.1 bt599.1 bt599.2.1 bt599.2.2.1 bt599.2.2.2.1 bt599.2.2.2.2.1 bt599.2.2.2.2.2.1 bt599.2.2.2.2.2.2.1 bt599.2.2.2.2.2.2.2.1 bt599.2.2.2.2.2.2.2.2.1 bt599.2.2.2.2.2.2.2.2.2.1 bt599.2.2.2.2.2.2.2.2.2.2 bt611.1 bt611.2.1 bt611.2.2.1 bt611.2.2.2.1 bt611.2.2.2.2.1 bt611.2.2.2.2.2.1 bt611.2.2.2.2.2.2.1 bt611.2.2.2.2.2.2.2.1 bt611.2.2.2.2.2.2.2.2.1 bt611.2.2.2.2.2.2.2.2.2.1 bt611.2.2.2.2.2.2.2.2.2.2 bt623.1 bt623.2.1 bt623.2.2.1 bt623.2.2.2.1 bt623.2.2.2.2.1 bt623.2.2.2.2.2.1 bt623.2.2.2.2.2.2.1 bt623.2.2.2.2.2.2.2.1 bt623.2.2.2.2.2.2.2.2.1 bt623.2.2.2.2.2.2.2.2.2.1 bt623.2.2.2.2.2.2.2.2.2.2 bt635.1 bt635.2.1 bt635.2.2.1 bt635.2.2.2.1 bt635.2.2.2.2.1 bt635.2.2.2.2.2.1 bt635.2.2.2.2.2.2.1 bt635.2.2.2.2.2.2.2.1 bt635.2.2.2.2.2.2.2.2.1 bt635.2.2.2.2.2.2.2.2.2.1 bt635.2.2.2.2.2.2.2.2.2.2.1 bt648.1 bt648.2.1 bt648.2.2.1 bt648.2.2.2.1 bt648.2.2.2.2.1 bt648.2.2.2.2.2.1 bt648.2.2.2.2.2.2.1 bt648.2.2.2.2.2.2.2.1 bt648.2.2.2.2.2.2.2.2.1 bt648.2.2.2.2.2.2.2.2.2.1 bt648.2.2.2.2.2.2.2.2.2.2) else ((impl_PortOk.f k bt660.1 bt660.2.1 bt660.2.2.1 bt660.2.2.2.1 bt660.2.2.2.2.1 bt660.2.2.2.2.2.1 bt660.2.2.2.2.2.2.1 bt660.2.2.2.2.2.2.2.1 bt660.2.2.2.2.2.2.2.2.1 bt660.2.2.2.2.2.2.2.2.2.1 bt660.2.2.2.2.2.2.2.2.2.2).bind fun t705 => ((spec_PortOk.f k bt660.1 bt660.2.1 bt660.2.2.1 bt660.2.2.2.1 bt660.2.2.2.2.1 bt660.2.2.2.2.2.1 bt660.2.2.2.2.2.2.1 bt660.2.2.2.2.2.2.2.1 bt660.2.2.2.2.2.2.2.2.1 bt660.2.2.2.2.2.2.2.2.2.1 bt660.2.2.2.2.2.2.2.2.2.2).bind fun t706 => (laws_FnPorts.j0 k (t705 != t706) bt581.1 bt581.2.1 bt581.2.2.1 bt581.2.2.2.1 bt581.2.2.2.2.1 bt581.2.2.2.2.2.1 bt581.2.2.2.2.2.2.1 bt581.2.2.2.2.2.2.2.1 bt581.2.2.2.2.2.2.2.2.1 bt581.2.2.2.2.2.2.2.2.2.1 bt581.2.2.2.2.2.2.2.2.2.2.1 bt599.1 bt599.2.1 bt599.2.2.1 bt599.2.2.2.1 bt599.2.2.2.2.1 bt599.2.2.2.2.2.1 bt599.2.2.2.2.2.2.1 bt599.2.2.2.2.2.2.2.1 bt599.2.2.2.2.2.2.2.2.1 bt599.2.2.2.2.2.2.2.2.2.1 bt599.2.2.2.2.2.2.2.2.2.2 bt611.1 bt611.2.1 bt611.2.2.1 bt611.2.2.2.1 bt611.2.2.2.2.1 bt611.2.2.2.2.2.1 bt611.2.2.2.2.2.2.1 bt611.2.2.2.2.2.2.2.1 bt611.2.2.2.2.2.2.2.2.1 bt611.2.2.2.2.2.2.2.2.2.1 bt611.2.2.2.2.2.2.2.2.2.2 bt623.1 bt623.2.1 bt623.2.2.1 bt623.2.2.2.1 bt623.2.2.2.2.1 bt623.2.2.2.2.2.1 bt623.2.2.2.2.2.2.1 bt623.2.2.2.2.2.2.2.1 bt623.2.2.2.2.2.2.2.2.1 bt623.2.2.2.2.2.2.2.2.2.1 bt623.2.2.2.2.2.2.2.2.2.2 bt635.1 bt635.2.1 bt635.2.2.1 bt635.2.2.2.1 bt635.2.2.2.2.1 bt635.2.2.2.2.2.1 bt635.2.2.2.2.2.2.1 bt635.2.2.2.2.2.2.2.1 bt635.2.2.2.2.2.2.2.2.1 bt635.2.2.2.2.2.2.2.2.2.1 bt635.2.2.2.2.2.2.2.2.2.2.1 bt648.1 bt648.2.1 bt648.2.2.1 bt648.2.2.2.1 bt648.2.2.2.2.1 bt648.2.2.2.2.2.1 bt648.2.2.2.2.2.2.1 bt648.2.2.2.2.2.2.2.1 bt648.2.2.2.2.2.2.2.2.1 bt648.2.2.2.2.2.2.2.2.2.1 bt648.2.2.2.2.2.2.2.2.2.2)))))))))))))))))) = some true := h
 clear h
 obtain ⟨t580, A20, H⟩ := hB H
 have A2 := aM A20
 clear A20
 by_cases c3 : t580 = true
 case pos =>
  subst c3
  have H1 : (some true) = some true := by first | (rw [if_pos rfl] at H; exact H) | (rw [if_pos rfl] at H)
  clear H
  have H := H1
  clear H1 H
  go_enter Try.func4, Try.ntmps4
  go_wp2_with (first | ((with_reducible refine gC (f := 6) rfl ?_); refine gL (some 14) Try.func6 #[.slice A0 l0.length c0] ?_; (with_reducible refine (laws_big.calls _ _ l0 true _ ?side1 ?side2 A2.out).mono ?_); (case side1 => repeat (first | exact HR0.out | (with_reducible refine Kd.C_alloc ?_ _) | (with_reducible refine Kd.C_drewN ?_ _) | (with_reducible refine Kd.C_drew ?_))); (case side2 => exact HC0.out); rintro e w' ⟨rfl, ⟨nd, rfl⟩⟩; refine ⟨_, rfl, ?_⟩))
  go_ret
  exact ⟨xW, bl HB.out⟩
 replace c3 := Bool.eq_false_iff.mpr c3
 subst c3
 have H1 : ((spec_DrawClaim.f k l0).bind fun bt581 => ((impl_Claim.f k bt581.1 bt581.2.1 bt581.2.2.1 bt581.2.2.2.1 bt581.2.2.2.2.1 bt581.2.2.2.2.2.1 bt581.2.2.2.2.2.2.1 bt581.2.2.2.2.2.2.2.1 bt581.2.2.2.2.2.2.2.2.1 bt581.2.2.2.2.2.2.2.2.2.1 bt581.2.2.2.2.2.2.2.2.2.2.1 bt581.2.2.2.2.2.2.2.2.2.2.2.1 bt581.2.2.2.2.2.2.2.2.2.2.2.2.1 bt581.2.2.2.2.2.2.2.2.2.2.2.2.2.1 bt581.2.2.2.2.2.2.2.2.2.2.2.2.2.2.1 bt581.2.2.2.2.2.2.2.2.2.2.2.2.2.2.2).bind fun bt599 => ((spec_DrawFade.f k l0).bind fun bt611 => ((impl_Fade.f k bt611.1 bt611.2.1 bt611.2.2.1 bt611.2.2.2.1 bt611.2.2.2.2.1 bt611.2.2.2.2.2.1 bt611.2.2.2.2.2.2.1 bt611.2.2.2.2.2.2.2.1 bt611.2.2.2.2.2.2.2.2.1 bt611.2.2.2.2.2.2.2.2.2.1 bt611.2.2.2.2.2.2.2.2.2.2).bind fun bt623 => ((spec_DrawTurn.f k l0).bind fun bt635 => ((impl_Turn.f k bt635.1 bt635.2.1 bt635.2.2.1 bt635.2.2.2.1 bt635.2.2.2.2.1 bt635.2.2.2.2.2.1 bt635.2.2.2.2.2.2.1 bt635.2.2.2.2.2.2.2.1 bt635.2.2.2.2.2.2.2.2.1 bt635.2.2.2.2.2.2.2.2.2.1 bt635.2.2.2.2.2.2.2.2.2.2.1 bt635.2.2.2.2.2.2.2.2.2.2.2).bind fun bt648 => ((spec_DrawPortOk.f k l0).bind fun bt660 => ((spec_Claim.f k bt581.1 bt581.2.1 bt581.2.2.1 bt581.2.2.2.1 bt581.2.2.2.2.1 bt581.2.2.2.2.2.1 bt581.2.2.2.2.2.2.1 bt581.2.2.2.2.2.2.2.1 bt581.2.2.2.2.2.2.2.2.1 bt581.2.2.2.2.2.2.2.2.2.1 bt581.2.2.2.2.2.2.2.2.2.2.1 bt581.2.2.2.2.2.2.2.2.2.2.2.1 bt581.2.2.2.2.2.2.2.2.2.2.2.2.1 bt581.2.2.2.2.2.2.2.2.2.2.2.2.2.1 bt581.2.2.2.2.2.2.2.2.2.2.2.2.2.2.1 bt581.2.2.2.2.2.2.2.2.2.2.2.2.2.2.2).bind fun bt672 => (if (!(bt599.1 == bt672.1) || (!(bt599.2.1 == bt672.2.1) || ((!(bt599.2.2.1 == bt672.2.2.1) || (!(bt599.2.2.2.1 == bt672.2.2.2.1) || (!(bt599.2.2.2.2.1 == bt672.2.2.2.2.1) || (!(bt599.2.2.2.2.2.1 == bt672.2.2.2.2.2.1))))) || (!(bt599.2.2.2.2.2.2.1 == bt672.2.2.2.2.2.2.1) || (!(bt599.2.2.2.2.2.2.2.1 == bt672.2.2.2.2.2.2.2.1) || (!(bt599.2.2.2.2.2.2.2.2.1 == bt672.2.2.2.2.2.2.2.2.1) || (!(bt599.2.2.2.2.2.2.2.2.2.1 == bt672.2.2.2.2.2.2.2.2.2.1) || (!(bt599.2.2.2.2.2.2.2.2.2.2 == bt672.2.2.2.2.2.2.2.2.2.2))))))))) = true then (laws_FnPorts.j0 k true bt581.1 bt581.2.1 bt581.2.2.1 bt581.2.2.2.1 bt581.2.2.2.2.1 bt581.2.2.2.2.2.1 bt581.2.2.2.2.2.2.1 bt581.2.2.2.2.2.2.2.1 bt581.2.2.2.2.2.2.2.2.1 bt581.2.2.2.2.2.2.2.2.2.1 bt581.2.2.2.2.2.2.2.2.2.2.1 bt599.1 bt599.2.1 bt599.2.2.1 bt599.2.2.2.1 bt599.2.2.2.2.1 bt599.2.2.2.2.2.1 bt599.2.2.2.2.2.2.1 bt599.2.2.2.2.2.2.2.1 bt599.2.2.2.2.2.2.2.2.1 bt599.2.2.2.2.2.2.2.2.2.1 bt599.2.2.2.2.2.2.2.2.2.2 bt611.1 bt611.2.1 bt611.2.2.1 bt611.2.2.2.1 bt611.2.2.2.2.1 bt611.2.2.2.2.2.1 bt611.2.2.2.2.2.2.1 bt611.2.2.2.2.2.2.2.1 bt611.2.2.2.2.2.2.2.2.1 bt611.2.2.2.2.2.2.2.2.2.1 bt611.2.2.2.2.2.2.2.2.2.2 bt623.1 bt623.2.1 bt623.2.2.1 bt623.2.2.2.1 bt623.2.2.2.2.1 bt623.2.2.2.2.2.1 bt623.2.2.2.2.2.2.1 bt623.2.2.2.2.2.2.2.1 bt623.2.2.2.2.2.2.2.2.1 bt623.2.2.2.2.2.2.2.2.2.1 bt623.2.2.2.2.2.2.2.2.2.2 bt635.1 bt635.2.1 bt635.2.2.1 bt635.2.2.2.1 bt635.2.2.2.2.1 bt635.2.2.2.2.2.1 bt635.2.2.2.2.2.2.1 bt635.2.2.2.2.2.2.2.1 bt635.2.2.2.2.2.2.2.2.1 bt635.2.2.2.2.2.2.2.2.2.1 bt635.2.2.2.2.2.2.2.2.2.2.1 bt648.1 bt648.2.1 bt648.2.2.1 bt648.2.2.2.1 bt648.2.2.2.2.1 bt648.2.2.2.2.2.1 bt648.2.2.2.2.2.2.1 bt648.2.2.2.2.2.2.2.1 bt648.2.2.2.2.2.2.2.2.1 bt648.2.2.2.2.2.2.2.2.2.1 bt648.2.2.2.2.2.2.2.2.2.2) else ((spec_Fade.f k bt611.1 bt611.2.1 bt611.2.2.1 bt611.2.2.2.1 bt611.2.2.2.2.1 bt611.2.2.2.2.2.1 bt611.2.2.2.2.2.2.1 bt611.2.2.2.2.2.2.2.1 bt611.2.2.2.2.2.2.2.2.1 bt611.2.2.2.2.2.2.2.2.2.1 bt611.2.2.2.2.2.2.2.2.2.2).bind fun bt683 => (if (!(bt623.1 == bt683.1) || (!(bt623.2.1 == bt683.2.1) || ((!(bt623.2.2.1 == bt683.2.2.1) || (!(bt623.2.2.2.1 == bt683.2.2.2.1) || (!(bt623.2.2.2.2.1 == bt683.2.2.2.2.1) || (!(bt623.2.2.2.2.2.1 == bt683.2.2.2.2.2.1))))) || (!(bt623.2.2.2.2.2.2.1 == bt683.2.2.2.2.2.2.1) || (!(bt623.2.2.2.2.2.2.2.1 == bt683.2.2.2.2.2.2.2.1) || (!(bt623.2.2.2.2.2.2.2.2.1 == bt683.2.2.2.2.2.2.2.2.1) || (!(bt623.2.2.2.2.2.2.2.2.2.1 == bt683.2.2.2.2.2.2.2.2.2.1) || (!(bt623.2.2.2.2.2.2.2.2.2.2 == bt683.2.2.2.2.2.2.2.2.2.2))))))))) = true then (laws_FnPorts.j0 k true bt581.1 bt581.2.1 bt581.2.2.1 bt581.2.2.2.1 bt581.2.2.2.2.1 bt581.2.2.2.2.2.1 bt581.2.2.2.2.2.2.1 bt581.2.2.2.2.2.2.2.1 bt581.2.2.2.2.2.2.2.2.1 bt581.2.2.2.2.2.2.2.2.2.1 bt581.2.2.2.2.2.2.2.2.2.2.1 bt599.1 bt599.2.1 bt599.2.2.1 bt599.2.2.2.1 bt599.2.2.2.2.1 bt599.2.2.2.2.2.1 bt599.2.2.2.2.2.2.1 bt599.2.2.2.2.2.2.2.1 bt599.2.2.2.2.2.2.2.2.1 bt599.2.2.2.2.2.2.2.2.2.1 bt599.2.2.2.2.2.2.2.2.2.2 bt611.1 bt611.2.1 bt611.2.2.1 bt611.2.2.2.1 bt611.2.2.2.2.1 bt611.2.2.2.2.2.1 bt611.2.2.2.2.2.2.1 bt611.2.2.2.2.2.2.2.1 bt611.2.2.2.2.2.2.2.2.1 bt611.2.2.2.2.2.2.2.2.2.1 bt611.2.2.2.2.2.2.2.2.2.2 bt623.1 bt623.2.1 bt623.2.2.1 bt623.2.2.2.1 bt623.2.2.2.2.1 bt623.2.2.2.2.2.1 bt623.2.2.2.2.2.2.1 bt623.2.2.2.2.2.2.2.1 bt623.2.2.2.2.2.2.2.2.1 bt623.2.2.2.2.2.2.2.2.2.1 bt623.2.2.2.2.2.2.2.2.2.2 bt635.1 bt635.2.1 bt635.2.2.1 bt635.2.2.2.1 bt635.2.2.2.2.1 bt635.2.2.2.2.2.1 bt635.2.2.2.2.2.2.1 bt635.2.2.2.2.2.2.2.1 bt635.2.2.2.2.2.2.2.2.1 bt635.2.2.2.2.2.2.2.2.2.1 bt635.2.2.2.2.2.2.2.2.2.2.1 bt648.1 bt648.2.1 bt648.2.2.1 bt648.2.2.2.1 bt648.2.2.2.2.1 bt648.2.2.2.2.2.1 bt648.2.2.2.2.2.2.1 bt648.2.2.2.2.2.2.2.1 bt648.2.2.2.2.2.2.2.2.1 bt648.2.2.2.2.2.2.2.2.2.1 bt648.2.2.2.2.2.2.2.2.2.2) else ((spec_Turn.f k bt635.1 bt635.2.1 bt635.2.2.1 bt635.2.2.2.1 bt635.2.2.2.2.1 bt635.2.2.2.2.2.1 bt635.2.2.2.2.2.2.1 bt635.2.2.2.2.2.2.2.1 bt635.2.2.2.2.2.2.2.2.1 bt635.2.2.2.2.2.2.2.2.2.1 bt635.2.2.2.2.2.2.2.2.2.2.1 bt635.2.2.2.2.2.2.2.2.2.2.2).bind fun bt694 => (if (!(bt648.1 == bt694.1) || (!(bt648.2.1 == bt694.2.1) || ((!(bt648.2.2.1 == bt694.2.2.1) || (!(bt648.2.2.2.1 == bt694.2.2.2.1) || (!(bt648.2.2.2.2.1 == bt694.2.2.2.2.1) || (!(bt648.2.2.2.2.2.1 == bt694.2.2.2.2.2.1))))) || (!(bt648.2.2.2.2.2.2.1 == bt694.2.2.2.2.2.2.1) || (!(bt648.2.2.2.2.2.2.2.1 == bt694.2.2.2.2.2.2.2.1) || (!(bt648.2.2.2.2.2.2.2.2.1 == bt694.2.2.2.2.2.2.2.2.1) || (!(bt648.2.2.2.2.2.2.2.2.2.1 == bt694.2.2.2.2.2.2.2.2.2.1) || (!(bt648.2.2.2.2.2.2.2.2.2.2 == bt694.2.2.2.2.2.2.2.2.2.2))))))))) = true then (laws_FnPorts.j0 k true bt581.1 bt581.2.1 bt581.2.2.1 bt581.2.2.2.1 bt581.2.2.2.2.1 bt581.2.2.2.2.2.1 bt581.2.2.2.2.2.2.1 bt581.2.2.2.2.2.2.2.1 bt581.2.2.2.2.2.2.2.2.1 bt581.2.2.2.2.2.2.2.2.2.1 bt581.2.2.2.2.2.2.2.2.2.2.1 bt599.1 bt599.2.1 bt599.2.2.1 bt599.2.2.2.1 bt599.2.2.2.2.1 bt599.2.2.2.2.2.1 bt599.2.2.2.2.2.2.1 bt599.2.2.2.2.2.2.2.1 bt599.2.2.2.2.2.2.2.2.1 bt599.2.2.2.2.2.2.2.2.2.1 bt599.2.2.2.2.2.2.2.2.2.2 bt611.1 bt611.2.1 bt611.2.2.1 bt611.2.2.2.1 bt611.2.2.2.2.1 bt611.2.2.2.2.2.1 bt611.2.2.2.2.2.2.1 bt611.2.2.2.2.2.2.2.1 bt611.2.2.2.2.2.2.2.2.1 bt611.2.2.2.2.2.2.2.2.2.1 bt611.2.2.2.2.2.2.2.2.2.2 bt623.1 bt623.2.1 bt623.2.2.1 bt623.2.2.2.1 bt623.2.2.2.2.1 bt623.2.2.2.2.2.1 bt623.2.2.2.2.2.2.1 bt623.2.2.2.2.2.2.2.1 bt623.2.2.2.2.2.2.2.2.1 bt623.2.2.2.2.2.2.2.2.2.1 bt623.2.2.2.2.2.2.2.2.2.2 bt635.1 bt635.2.1 bt635.2.2.1 bt635.2.2.2.1 bt635.2.2.2.2.1 bt635.2.2.2.2.2.1 bt635.2.2.2.2.2.2.1 bt635.2.2.2.2.2.2.2.1 bt635.2.2.2.2.2.2.2.2.1 bt635.2.2.2.2.2.2.2.2.2.1 bt635.2.2.2.2.2.2.2.2.2.2.1 bt648.1 bt648.2.1 bt648.2.2.1 bt648.2.2.2.1 bt648.2.2.2.2.1 bt648.2.2.2.2.2.1 bt648.2.2.2.2.2.2.1 bt648.2.2.2.2.2.2.2.1 bt648.2.2.2.2.2.2.2.2.1 bt648.2.2.2.2.2.2.2.2.2.1 bt648.2.2.2.2.2.2.2.2.2.2) else ((impl_PortOk.f k bt660.1 bt660.2.1 bt660.2.2.1 bt660.2.2.2.1 bt660.2.2.2.2.1 bt660.2.2.2.2.2.1 bt660.2.2.2.2.2.2.1 bt660.2.2.2.2.2.2.2.1 bt660.2.2.2.2.2.2.2.2.1 bt660.2.2.2.2.2.2.2.2.2.1 bt660.2.2.2.2.2.2.2.2.2.2).bind fun t705 => ((spec_PortOk.f k bt660.1 bt660.2.1 bt660.2.2.1 bt660.2.2.2.1 bt660.2.2.2.2.1 bt660.2.2.2.2.2.1 bt660.2.2.2.2.2.2.1 bt660.2.2.2.2.2.2.2.1 bt660.2.2.2.2.2.2.2.2.1 bt660.2.2.2.2.2.2.2.2.2.1 bt660.2.2.2.2.2.2.2.2.2.2).bind fun t706 => (laws_FnPorts.j0 k (t705 != t706) bt581.1 bt581.2.1 bt581.2.2.1 bt581.2.2.2.1 bt581.2.2.2.2.1 bt581.2.2.2.2.2.1 bt581.2.2.2.2.2.2.1 bt581.2.2.2.2.2.2.2.1 bt581.2.2.2.2.2.2.2.2.1 bt581.2.2.2.2.2.2.2.2.2.1 bt581.2.2.2.2.2.2.2.2.2.2.1 bt599.1 bt599.2.1 bt599.2.2.1 bt599.2.2.2.1 bt599.2.2.2.2.1 bt599.2.2.2.2.2.1 bt599.2.2.2.2.2.2.1 bt599.2.2.2.2.2.2.2.1 bt599.2.2.2.2.2.2.2.2.1 bt599.2.2.2.2.2.2.2.2.2.1 bt599.2.2.2.2.2.2.2.2.2.2 bt611.1 bt611.2.1 bt611.2.2.1 bt611.2.2.2.1 bt611.2.2.2.2.1 bt611.2.2.2.2.2.1 bt611.2.2.2.2.2.2.1 bt611.2.2.2.2.2.2.2.1 bt611.2.2.2.2.2.2.2.2.1 bt611.2.2.2.2.2.2.2.2.2.1 bt611.2.2.2.2.2.2.2.2.2.2 bt623.1 bt623.2.1 bt623.2.2.1 bt623.2.2.2.1 bt623.2.2.2.2.1 bt623.2.2.2.2.2.1 bt623.2.2.2.2.2.2.1 bt623.2.2.2.2.2.2.2.1 bt623.2.2.2.2.2.2.2.2.1 bt623.2.2.2.2.2.2.2.2.2.1 bt623.2.2.2.2.2.2.2.2.2.2 bt635.1 bt635.2.1 bt635.2.2.1 bt635.2.2.2.1 bt635.2.2.2.2.1 bt635.2.2.2.2.2.1 bt635.2.2.2.2.2.2.1 bt635.2.2.2.2.2.2.2.1 bt635.2.2.2.2.2.2.2.2.1 bt635.2.2.2.2.2.2.2.2.2.1 bt635.2.2.2.2.2.2.2.2.2.2.1 bt648.1 bt648.2.1 bt648.2.2.1 bt648.2.2.2.1 bt648.2.2.2.2.1 bt648.2.2.2.2.2.1 bt648.2.2.2.2.2.2.1 bt648.2.2.2.2.2.2.2.1 bt648.2.2.2.2.2.2.2.2.1 bt648.2.2.2.2.2.2.2.2.2.1 bt648.2.2.2.2.2.2.2.2.2.2)))))))))))))))) = some true := by first | (rw [if_neg (show ¬ (false = true) by decide)] at H; exact H) | (rw [if_neg (show ¬ (false = true) by decide)] at H)
 clear H
 have H := H1
 clear H1
 obtain ⟨⟨t581, t582, t583, t584, t585, t586, t587, t588, t589, t590, t591, t592, t593, t594, t595, t596⟩, A40, H⟩ := hB H
 try dsimp only at H
 have A4 := aM A40
 clear A40
 obtain ⟨⟨t599, t600, t601, t602, t603, t604, t605, t606, t607, t608, t609⟩, A50, H⟩ := hB H
 try dsimp only at H
 have A5 := aM A50
 clear A50
 obtain ⟨⟨t611, t612, t613, t614, t615, t616, t617, t618, t619, t620, t621⟩, A60, H⟩ := hB H
 try dsimp only at H
 have A6 := aM A60
 clear A60
 obtain ⟨⟨t623, t624, t625, t626, t627, t628, t629, t630, t631, t632, t633⟩, A70, H⟩ := hB H
 try dsimp only at H
 have A7 := aM A70
 clear A70
 obtain ⟨⟨t635, t636, t637, t638, t639, t640, t641, t642, t643, t644, t645, t646⟩, A80, H⟩ := hB H
 try dsimp only at H
 have A8 := aM A80
 clear A80
 obtain ⟨⟨t648, t649, t650, t651, t652, t653, t654, t655, t656, t657, t658⟩, A90, H⟩ := hB H
 try dsimp only at H
 have A9 := aM A90
 clear A90
 obtain ⟨⟨t660, t661, t662, t663, t664, t665, t666, t667, t668, t669, t670⟩, A100, H⟩ := hB H
 try dsimp only at H
 have A10 := aM A100
 clear A100
 have HC11 := aM H
 clear H
 go_enter Try.func4, Try.ntmps4
 go_upto_region 10 with (first | ((with_reducible refine gC (f := 6) rfl ?_); refine gL (some 14) Try.func6 #[.slice A0 l0.length c0] ?_; (with_reducible refine (laws_big.calls _ _ l0 false _ ?side1 ?side2 A2.out).mono ?_); (case side1 => repeat (first | exact HR0.out | (with_reducible refine Kd.C_alloc ?_ _) | (with_reducible refine Kd.C_drewN ?_ _) | (with_reducible refine Kd.C_drew ?_))); (case side2 => exact HC0.out); rintro e w' ⟨rfl, ⟨nd, rfl⟩⟩; refine ⟨_, rfl, ?_⟩) | ((with_reducible refine gC (f := 18) rfl ?_); refine gL (some 17) Try.func18 #[.slice A0 l0.length c0] ?_; (with_reducible refine (spec_DrawClaim.calls k _ _ l0 t581 t582 t583 t584 t585 t586 t587 t588 t589 t590 t591 t592 t593 t594 t595 t596 _ ?side1 ?side2 A4.out).mono ?_); (case side1 => repeat (first | exact HR0.out | (with_reducible refine Kd.C_alloc ?_ _) | (with_reducible refine Kd.C_drewN ?_ _) | (with_reducible refine Kd.C_drew ?_))); (case side2 => exact HC0.out); rintro e w12 ⟨rfl, hb⟩; refine ⟨_, rfl, ?_⟩; replace HB := aM (bS (bl HB.out) hb); (try clear hb)) | ((with_reducible refine gD (N := 3) rfl ?_); refine bE (N := 3) (cs := #[.bool false, .bool false, .int .i64 0, .int .i64 0, .int .i64 0, .int .i64 0, .int .i64 0, .int .i64 0, .int .i64 0, .int .i64 0, .bool false]) (t := 38) ?_; intro gb597 hg w13 hbox hb; have BK597 := aM (hbox); have GW597 := gE hg (below_size (bl HB.out)); have GE597 := gE hg (below_size (bl HB.out)); replace HB := aM (bS (bl HB.out) hb); clear hb hbox hg) | ((with_reducible refine gD (N := 4) rfl ?_); refine bE (N := 4) (cs := #[.int .i64 0, .int .i64 0, .int .i64 0, .int .i64 0]) (t := 36) ?_; intro gb598 hg w14 hbox hb; have BK598 := aM (hbox); have GW598 := gE hg (below_size (bl HB.out)); have GE598 := gE hg (below_size (bl HB.out)); have NB597_598 := nL hg (blk_lt (bk BK597.out)); have NB598_597 := nG hg (blk_lt (bk BK597.out)); replace BK597 := aM (bB (bk BK597.out) hb); replace HB := aM (bS (bl HB.out) hb); clear hb hbox hg; have hnb15 := NB597_598.out; have hnc15 := NB598_597.out; have hcz16 := cA11 BK597.out; have hcz17 := cA4 BK598.out) | ((with_reducible refine gC (f := 19) rfl ?_); refine gL (some 24) Try.func19 #[.agg #[.bool t581, .bool t582, .int .i64 t583, .int .i64 t584, .int .i64 t585, .int .i64 t586, .int .i64 t587, .int .i64 t588, .int .i64 t589, .int .i64 t590, .bool t591], .agg #[.int .i64 t592, .int .i64 t593, .int .i64 t594, .int .i64 t595], .int .i64 t596] ?_; (with_reducible refine (impl_Claim.calls k t581 t582 t583 t584 t585 t586 t587 t588 t589 t590 t591 t592 t593 t594 t595 t596 t599 t600 t601 t602 t603 t604 t605 t606 t607 t608 t609 _ A5.out).mono ?_); rintro e w18 ⟨rfl, hb⟩; refine ⟨_, rfl, ?_⟩; replace BK597 := aM (bB (g := gb597) (o := .cells #[.bool t581, .bool t582, .int .i64 t583, .int .i64 t584, .int .i64 t585, .int .i64 t586, .int .i64 t587, .int .i64 t588, .int .i64 t589, .int .i64 t590, .bool t591] 38 (0, 0)) (bm BK597.out) hb); replace BK598 := aM (bB (g := gb598) (o := .cells #[.int .i64 t592, .int .i64 t593, .int .i64 t594, .int .i64 t595] 36 (0, 0)) (bm BK598.out) hb); replace HB := aM (bS (bl HB.out) hb); (try clear hb)) | ((with_reducible refine gD (N := 6) rfl ?_); refine bE (N := 6) (cs := #[.bool false, .bool false, .int .i64 0, .int .i64 0, .int .i64 0, .int .i64 0, .int .i64 0, .int .i64 0, .int .i64 0, .int .i64 0, .bool false]) (t := 38) ?_; intro gb610 hg w19 hbox hb; have BK610 := aM (hbox); have GW610 := gE hg (below_size (bl HB.out)); have GE610 := gE hg (below_size (bl HB.out)); have NB597_610 := nL hg (blk_lt (bk BK597.out)); have NB610_597 := nG hg (blk_lt (bk BK597.out)); have NB598_610 := nL hg (blk_lt (bk BK598.out)); have NB610_598 := nG hg (blk_lt (bk BK598.out)); replace BK597 := aM (bB (bk BK597.out) hb); replace BK598 := aM (bB (bk BK598.out) hb); replace HB := aM (bS (bl HB.out) hb); clear hb hbox hg; have hnb20 := NB610_597.out; have hnc20 := NB597_610.out; have hnb21 := NB610_598.out; have hnc21 := NB598_610.out; have hcz22 := cA11 BK610.out) | ((with_reducible refine gC (f := 20) rfl ?_); refine gL (some 26) Try.func20 #[.slice A0 l0.length c0] ?_; (with_reducible refine (spec_DrawFade.calls k _ _ l0 t611 t612 t613 t614 t615 t616 t617 t618 t619 t620 t621 _ ?side1 ?side2 A6.out).mono ?_); (case side1 => exact cB HR0.out (bl HB.out)); (case side2 => exact HC0.out); rintro e w23 ⟨rfl, hb⟩; refine ⟨_, rfl, ?_⟩; replace BK597 := aM (bB (fm BK597.out) hb); replace BK598 := aM (bB (fm BK598.out) hb); replace BK610 := aM (bB (g := gb610) (o := .cells #[.bool t599, .bool t600, .int .i64 t601, .int .i64 t602, .int .i64 t603, .int .i64 t604, .int .i64 t605, .int .i64 t606, .int .i64 t607, .int .i64 t608, .bool t609] 38 (0, 0)) (bm BK610.out) hb); replace HB := aM (bS (bl HB.out) hb); (try clear hb)) | ((with_reducible refine gD (N := 7) rfl ?_); refine bE (N := 7) (cs := #[.bool false, .bool false, .int .i64 0, .int .i64 0, .int .i64 0, .int .i64 0, .int .i64 0, .int .i64 0, .int .i64 0, .int .i64 0, .bool false]) (t := 38) ?_; intro gb622 hg w24 hbox hb; have BK622 := aM (hbox); have GW622 := gE hg (below_size (bl HB.out)); have GE622 := gE hg (below_size (bl HB.out)); have NB597_622 := nL hg (blk_lt (bk BK597.out)); have NB622_597 := nG hg (blk_lt (bk BK597.out)); have NB598_622 := nL hg (blk_lt (bk BK598.out)); have NB622_598 := nG hg (blk_lt (bk BK598.out)); have NB610_622 := nL hg (blk_lt (bk BK610.out)); have NB622_610 := nG hg (blk_lt (bk BK610.out)); replace BK597 := aM (bB (bk BK597.out) hb); replace BK598 := aM (bB (bk BK598.out) hb); replace BK610 := aM (bB (bk BK610.out) hb); replace HB := aM (bS (bl HB.out) hb); clear hb hbox hg; have hnb25 := NB622_597.out; have hnc25 := NB597_622.out; have hnb26 := NB622_598.out; have hnc26 := NB598_622.out; have hnb27 := NB622_610.out; have hnc27 := NB610_622.out; have hcz28 := cA11 BK622.out) | ((with_reducible refine gC (f := 21) rfl ?_); refine gL (some 28) Try.func21 #[.agg #[.bool t611, .bool t612, .int .i64 t613, .int .i64 t614, .int .i64 t615, .int .i64 t616, .int .i64 t617, .int .i64 t618, .int .i64 t619, .int .i64 t620, .bool t621]] ?_; (with_reducible refine (impl_Fade.calls k t611 t612 t613 t614 t615 t616 t617 t618 t619 t620 t621 t623 t624 t625 t626 t627 t628 t629 t630 t631 t632 t633 _ A7.out).mono ?_); rintro e w29 ⟨rfl, hb⟩; refine ⟨_, rfl, ?_⟩; replace BK597 := aM (bB (fm BK597.out) hb); replace BK598 := aM (bB (fm BK598.out) hb); replace BK610 := aM (bB (fm BK610.out) hb); replace BK622 := aM (bB (g := gb622) (o := .cells #[.bool t611, .bool t612, .int .i64 t613, .int .i64 t614, .int .i64 t615, .int .i64 t616, .int .i64 t617, .int .i64 t618, .int .i64 t619, .int .i64 t620, .bool t621] 38 (0, 0)) (bm BK622.out) hb); replace HB := aM (bS (bl HB.out) hb); (try clear hb)) | ((with_reducible refine gD (N := 8) rfl ?_); refine bE (N := 8) (cs := #[.bool false, .bool false, .int .i64 0, .int .i64 0, .int .i64 0, .int .i64 0, .int .i64 0, .int .i64 0, .int .i64 0, .int .i64 0, .bool false]) (t := 38) ?_; intro gb634 hg w30 hbox hb; have BK634 := aM (hbox); have GW634 := gE hg (below_size (bl HB.out)); have GE634 := gE hg (below_size (bl HB.out)); have NB597_634 := nL hg (blk_lt (bk BK597.out)); have NB634_597 := nG hg (blk_lt (bk BK597.out)); have NB598_634 := nL hg (blk_lt (bk BK598.out)); have NB634_598 := nG hg (blk_lt (bk BK598.out)); have NB610_634 := nL hg (blk_lt (bk BK610.out)); have NB634_610 := nG hg (blk_lt (bk BK610.out)); have NB622_634 := nL hg (blk_lt (bk BK622.out)); have NB634_622 := nG hg (blk_lt (bk BK622.out)); replace BK597 := aM (bB (bk BK597.out) hb); replace BK598 := aM (bB (bk BK598.out) hb); replace BK610 := aM (bB (bk BK610.out) hb); replace BK622 := aM (bB (bk BK622.out) hb); replace HB := aM (bS (bl HB.out) hb); clear hb hbox hg; have hnb31 := NB634_597.out; have hnc31 := NB597_634.out; have hnb32 := NB634_598.out; have hnc32 := NB598_634.out; have hnb33 := NB634_610.out; have hnc33 := NB610_634.out; have hnb34 := NB634_622.out; have hnc34 := NB622_634.out; have hcz35 := cA11 BK634.out) | ((with_reducible refine gC (f := 22) rfl ?_); refine gL (some 31) Try.func22 #[.slice A0 l0.length c0] ?_; (with_reducible refine (spec_DrawTurn.calls k _ _ l0 t635 t636 t637 t638 t639 t640 t641 t642 t643 t644 t645 t646 _ ?side1 ?side2 A8.out).mono ?_); (case side1 => exact cB HR0.out (bl HB.out)); (case side2 => exact HC0.out); rintro e w36 ⟨rfl, hb⟩; refine ⟨_, rfl, ?_⟩; replace BK597 := aM (bB (fm BK597.out) hb); replace BK598 := aM (bB (fm BK598.out) hb); replace BK610 := aM (bB (fm BK610.out) hb); replace BK622 := aM (bB (fm BK622.out) hb); replace BK634 := aM (bB (g := gb634) (o := .cells #[.bool t623, .bool t624, .int .i64 t625, .int .i64 t626, .int .i64 t627, .int .i64 t628, .int .i64 t629, .int .i64 t630, .int .i64 t631, .int .i64 t632, .bool t633] 38 (0, 0)) (bm BK634.out) hb); replace HB := aM (bS (bl HB.out) hb); (try clear hb)) | ((with_reducible refine gD (N := 9) rfl ?_); refine bE (N := 9) (cs := #[.bool false, .bool false, .int .i64 0, .int .i64 0, .int .i64 0, .int .i64 0, .int .i64 0, .int .i64 0, .int .i64 0, .int .i64 0, .bool false]) (t := 38) ?_; intro gb647 hg w37 hbox hb; have BK647 := aM (hbox); have GW647 := gE hg (below_size (bl HB.out)); have GE647 := gE hg (below_size (bl HB.out)); have NB597_647 := nL hg (blk_lt (bk BK597.out)); have NB647_597 := nG hg (blk_lt (bk BK597.out)); have NB598_647 := nL hg (blk_lt (bk BK598.out)); have NB647_598 := nG hg (blk_lt (bk BK598.out)); have NB610_647 := nL hg (blk_lt (bk BK610.out)); have NB647_610 := nG hg (blk_lt (bk BK610.out)); have NB622_647 := nL hg (blk_lt (bk BK622.out)); have NB647_622 := nG hg (blk_lt (bk BK622.out)); have NB634_647 := nL hg (blk_lt (bk BK634.out)); have NB647_634 := nG hg (blk_lt (bk BK634.out)); replace BK597 := aM (bB (bk BK597.out) hb); replace BK598 := aM (bB (bk BK598.out) hb); replace BK610 := aM (bB (bk BK610.out) hb); replace BK622 := aM (bB (bk BK622.out) hb); replace BK634 := aM (bB (bk BK634.out) hb); replace HB := aM (bS (bl HB.out) hb); clear hb hbox hg; have hnb38 := NB647_597.out; have hnc38 := NB597_647.out; have hnb39 := NB647_598.out; have hnc39 := NB598_647.out; have hnb40 := NB647_610.out; have hnc40 := NB610_647.out; have hnb41 := NB647_622.out; have hnc41 := NB622_647.out; have hnb42 := NB647_634.out; have hnc42 := NB634_647.out; have hcz43 := cA11 BK647.out) | ((with_reducible refine gC (f := 23) rfl ?_); refine gL (some 36) Try.func23 #[.agg #[.bool t635, .bool t636, .int .i64 t637, .int .i64 t638, .int .i64 t639, .int .i64 t640, .int .i64 t641, .int .i64 t642, .int .i64 t643, .int .i64 t644, .bool t645], .int .i64 t646] ?_; (with_reducible refine (impl_Turn.calls k t635 t636 t637 t638 t639 t640 t641 t642 t643 t644 t645 t646 t648 t649 t650 t651 t652 t653 t654 t655 t656 t657 t658 _ A9.out).mono ?_); rintro e w44 ⟨rfl, hb⟩; refine ⟨_, rfl, ?_⟩; replace BK597 := aM (bB (fm BK597.out) hb); replace BK598 := aM (bB (fm BK598.out) hb); replace BK610 := aM (bB (fm BK610.out) hb); replace BK622 := aM (bB (fm BK622.out) hb); replace BK634 := aM (bB (fm BK634.out) hb); replace BK647 := aM (bB (g := gb647) (o := .cells #[.bool t635, .bool t636, .int .i64 t637, .int .i64 t638, .int .i64 t639, .int .i64 t640, .int .i64 t641, .int .i64 t642, .int .i64 t643, .int .i64 t644, .bool t645] 38 (0, 0)) (bm BK647.out) hb); replace HB := aM (bS (bl HB.out) hb); (try clear hb)) | ((with_reducible refine gD (N := 11) rfl ?_); refine bE (N := 11) (cs := #[.bool false, .bool false, .int .i64 0, .int .i64 0, .int .i64 0, .int .i64 0, .int .i64 0, .int .i64 0, .int .i64 0, .int .i64 0, .bool false]) (t := 38) ?_; intro gb659 hg w45 hbox hb; have BK659 := aM (hbox); have GW659 := gE hg (below_size (bl HB.out)); have GE659 := gE hg (below_size (bl HB.out)); have NB597_659 := nL hg (blk_lt (bk BK597.out)); have NB659_597 := nG hg (blk_lt (bk BK597.out)); have NB598_659 := nL hg (blk_lt (bk BK598.out)); have NB659_598 := nG hg (blk_lt (bk BK598.out)); have NB610_659 := nL hg (blk_lt (bk BK610.out)); have NB659_610 := nG hg (blk_lt (bk BK610.out)); have NB622_659 := nL hg (blk_lt (bk BK622.out)); have NB659_622 := nG hg (blk_lt (bk BK622.out)); have NB634_659 := nL hg (blk_lt (bk BK634.out)); have NB659_634 := nG hg (blk_lt (bk BK634.out)); have NB647_659 := nL hg (blk_lt (bk BK647.out)); have NB659_647 := nG hg (blk_lt (bk BK647.out)); replace BK597 := aM (bB (bk BK597.out) hb); replace BK598 := aM (bB (bk BK598.out) hb); replace BK610 := aM (bB (bk BK610.out) hb); replace BK622 := aM (bB (bk BK622.out) hb); replace BK634 := aM (bB (bk BK634.out) hb); replace BK647 := aM (bB (bk BK647.out) hb); replace HB := aM (bS (bl HB.out) hb); clear hb hbox hg; have hnb46 := NB659_597.out; have hnc46 := NB597_659.out; have hnb47 := NB659_598.out; have hnc47 := NB598_659.out; have hnb48 := NB659_610.out; have hnc48 := NB610_659.out; have hnb49 := NB659_622.out; have hnc49 := NB622_659.out; have hnb50 := NB659_634.out; have hnc50 := NB634_659.out; have hnb51 := NB659_647.out; have hnc51 := NB647_659.out; have hcz52 := cA11 BK659.out) | ((with_reducible refine gC (f := 24) rfl ?_); refine gL (some 38) Try.func24 #[.slice A0 l0.length c0] ?_; (with_reducible refine (spec_DrawPortOk.calls k _ _ l0 t660 t661 t662 t663 t664 t665 t666 t667 t668 t669 t670 _ ?side1 ?side2 A10.out).mono ?_); (case side1 => exact cB HR0.out (bl HB.out)); (case side2 => exact HC0.out); rintro e w53 ⟨rfl, hb⟩; refine ⟨_, rfl, ?_⟩; replace BK597 := aM (bB (fm BK597.out) hb); replace BK598 := aM (bB (fm BK598.out) hb); replace BK610 := aM (bB (fm BK610.out) hb); replace BK622 := aM (bB (fm BK622.out) hb); replace BK634 := aM (bB (fm BK634.out) hb); replace BK647 := aM (bB (fm BK647.out) hb); replace BK659 := aM (bB (g := gb659) (o := .cells #[.bool t648, .bool t649, .int .i64 t650, .int .i64 t651, .int .i64 t652, .int .i64 t653, .int .i64 t654, .int .i64 t655, .int .i64 t656, .int .i64 t657, .bool t658] 38 (0, 0)) (bm BK659.out) hb); replace HB := aM (bS (bl HB.out) hb); (try clear hb)) | ((with_reducible refine gD (N := 12) rfl ?_); refine bE (N := 12) (cs := #[.bool false, .bool false, .int .i64 0, .int .i64 0, .int .i64 0, .int .i64 0, .int .i64 0, .int .i64 0, .int .i64 0, .int .i64 0, .bool false]) (t := 38) ?_; intro gb671 hg w54 hbox hb; have BK671 := aM (hbox); have GW671 := gE hg (below_size (bl HB.out)); have GE671 := gE hg (below_size (bl HB.out)); have NB597_671 := nL hg (blk_lt (bk BK597.out)); have NB671_597 := nG hg (blk_lt (bk BK597.out)); have NB598_671 := nL hg (blk_lt (bk BK598.out)); have NB671_598 := nG hg (blk_lt (bk BK598.out)); have NB610_671 := nL hg (blk_lt (bk BK610.out)); have NB671_610 := nG hg (blk_lt (bk BK610.out)); have NB622_671 := nL hg (blk_lt (bk BK622.out)); have NB671_622 := nG hg (blk_lt (bk BK622.out)); have NB634_671 := nL hg (blk_lt (bk BK634.out)); have NB671_634 := nG hg (blk_lt (bk BK634.out)); have NB647_671 := nL hg (blk_lt (bk BK647.out)); have NB671_647 := nG hg (blk_lt (bk BK647.out)); have NB659_671 := nL hg (blk_lt (bk BK659.out)); have NB671_659 := nG hg (blk_lt (bk BK659.out)); replace BK597 := aM (bB (bk BK597.out) hb); replace BK598 := aM (bB (bk BK598.out) hb); replace BK610 := aM (bB (bk BK610.out) hb); replace BK622 := aM (bB (bk BK622.out) hb); replace BK634 := aM (bB (bk BK634.out) hb); replace BK647 := aM (bB (bk BK647.out) hb); replace BK659 := aM (bB (bk BK659.out) hb); replace HB := aM (bS (bl HB.out) hb); clear hb hbox hg; have hnb55 := NB671_597.out; have hnc55 := NB597_671.out; have hnb56 := NB671_598.out; have hnc56 := NB598_671.out; have hnb57 := NB671_610.out; have hnc57 := NB610_671.out; have hnb58 := NB671_622.out; have hnc58 := NB622_671.out; have hnb59 := NB671_634.out; have hnc59 := NB634_671.out; have hnb60 := NB671_647.out; have hnc60 := NB647_671.out; have hnb61 := NB671_659.out; have hnc61 := NB659_671.out; have hcz62 := cA11 BK671.out))
 (try simp only [Act.put, sA, sZ, sS])
 go_cut [64] (fun v64 wc => ∃ (kq : Nat) (x64_10 : Bool), v64 = .bool x64_10 ∧ Aside0 (laws_FnPorts.j0 kq x64_10 t581 t582 t583 t584 t585 t586 t587 t588 t589 t590 t591 t599 t600 t601 t602 t603 t604 t605 t606 t607 t608 t609 t611 t612 t613 t614 t615 t616 t617 t618 t619 t620 t621 t623 t624 t625 t626 t627 t628 t629 t630 t631 t632 t633 t635 t636 t637 t638 t639 t640 t641 t642 t643 t644 t645 t648 t649 t650 t651 t652 t653 t654 t655 t656 t657 t658 = some true) ∧ Aside0 (kq ≤ k) ∧ Aside0 (wc.heap[gb597]? = some (.cells #[.bool t581, .bool t582, .int .i64 t583, .int .i64 t584, .int .i64 t585, .int .i64 t586, .int .i64 t587, .int .i64 t588, .int .i64 t589, .int .i64 t590, .bool t591] 38 (0, 0))) ∧ Aside0 (wc.heap[gb598]? = some (.cells #[.int .i64 t592, .int .i64 t593, .int .i64 t594, .int .i64 t595] 36 (0, 0))) ∧ Aside0 (wc.heap[gb610]? = some (.cells #[.bool t599, .bool t600, .int .i64 t601, .int .i64 t602, .int .i64 t603, .int .i64 t604, .int .i64 t605, .int .i64 t606, .int .i64 t607, .int .i64 t608, .bool t609] 38 (0, 0))) ∧ Aside0 (wc.heap[gb622]? = some (.cells #[.bool t611, .bool t612, .int .i64 t613, .int .i64 t614, .int .i64 t615, .int .i64 t616, .int .i64 t617, .int .i64 t618, .int .i64 t619, .int .i64 t620, .bool t621] 38 (0, 0))) ∧ Aside0 (wc.heap[gb634]? = some (.cells #[.bool t623, .bool t624, .int .i64 t625, .int .i64 t626, .int .i64 t627, .int .i64 t628, .int .i64 t629, .int .i64 t630, .int .i64 t631, .int .i64 t632, .bool t633] 38 (0, 0))) ∧ Aside0 (wc.heap[gb647]? = some (.cells #[.bool t635, .bool t636, .int .i64 t637, .int .i64 t638, .int .i64 t639, .int .i64 t640, .int .i64 t641, .int .i64 t642, .int .i64 t643, .int .i64 t644, .bool t645] 38 (0, 0))) ∧ Aside0 (wc.heap[gb659]? = some (.cells #[.bool t648, .bool t649, .int .i64 t650, .int .i64 t651, .int .i64 t652, .int .i64 t653, .int .i64 t654, .int .i64 t655, .int .i64 t656, .int .i64 t657, .bool t658] 38 (0, 0))) ∧ Aside0 (wc.heap[gb671]? = some (.cells #[.bool t660, .bool t661, .int .i64 t662, .int .i64 t663, .int .i64 t664, .int .i64 t665, .int .i64 t666, .int .i64 t667, .int .i64 t668, .int .i64 t669, .bool t670] 38 (0, 0))) ∧ Aside0 (Below w.heap.size w wc))
 case first =>
  have H := HC11.out
  clear HC11
  obtain ⟨⟨t672, t673, t674, t675, t676, t677, t678, t679, t680, t681, t682⟩, A630, H⟩ := hB H
  try dsimp only at H
  have A63 := aM A630
  clear A630
  by_cases c64 : (!(t599 == t672) || (!(t600 == t673) || ((!(t601 == t674) || (!(t602 == t675) || (!(t603 == t676) || (!(t604 == t677))))) || (!(t605 == t678) || (!(t606 == t679) || (!(t607 == t680) || (!(t608 == t681) || (!(t609 == t682))))))))) = true
  case pos =>
   rw [if_pos c64] at H
   have c64b0 : (!(t599 == t672) || (!(t600 == t673) || ((!(t601 == t674) || (!(t602 == t675) || (!(t603 == t676) || (!(t604 == t677))))) || (!(t605 == t678) || (!(t606 == t679) || (!(t607 == t680) || (!(t608 == t681) || (!(t609 == t682))))))))) = true := c64
   clear c64
   (first | rw [c64b0] | (simp only [i64_w, i32_w]; rw [c64b0]) | skip)
   exact absurd H (laws_FnPorts.j0_no _ _ _ _ _ _ _ _ _ _ _ _ _ _ _ _ _ _ _ _ _ _ _ _ _ _ _ _ _ _ _ _ _ _ _ _ _ _ _ _ _ _ _ _ _ _ _ _ _ _ _ _ _ _ _ _ _ _ _ _ _ _ _ _ _ _ _)
  rw [if_neg c64] at H
  have c64b0 : (!(t599 == t672) || (!(t600 == t673) || ((!(t601 == t674) || (!(t602 == t675) || (!(t603 == t676) || (!(t604 == t677))))) || (!(t605 == t678) || (!(t606 == t679) || (!(t607 == t680) || (!(t608 == t681) || (!(t609 == t682))))))))) = false := by simpa using c64
  clear c64
  (first | rw [c64b0] | (simp only [i64_w, i32_w]; rw [c64b0]) | skip)
  obtain ⟨⟨t683, t684, t685, t686, t687, t688, t689, t690, t691, t692, t693⟩, A680, H⟩ := hB H
  try dsimp only at H
  have A68 := aM A680
  clear A680
  by_cases c69 : (!(t623 == t683) || (!(t624 == t684) || ((!(t625 == t685) || (!(t626 == t686) || (!(t627 == t687) || (!(t628 == t688))))) || (!(t629 == t689) || (!(t630 == t690) || (!(t631 == t691) || (!(t632 == t692) || (!(t633 == t693))))))))) = true
  case pos =>
   rw [if_pos c69] at H
   have c69b0 : (!(t623 == t683) || (!(t624 == t684) || ((!(t625 == t685) || (!(t626 == t686) || (!(t627 == t687) || (!(t628 == t688))))) || (!(t629 == t689) || (!(t630 == t690) || (!(t631 == t691) || (!(t632 == t692) || (!(t633 == t693))))))))) = true := c69
   clear c69
   exact absurd H (laws_FnPorts.j0_no _ _ _ _ _ _ _ _ _ _ _ _ _ _ _ _ _ _ _ _ _ _ _ _ _ _ _ _ _ _ _ _ _ _ _ _ _ _ _ _ _ _ _ _ _ _ _ _ _ _ _ _ _ _ _ _ _ _ _ _ _ _ _ _ _ _ _)
  rw [if_neg c69] at H
  have c69b0 : (!(t623 == t683) || (!(t624 == t684) || ((!(t625 == t685) || (!(t626 == t686) || (!(t627 == t687) || (!(t628 == t688))))) || (!(t629 == t689) || (!(t630 == t690) || (!(t631 == t691) || (!(t632 == t692) || (!(t633 == t693))))))))) = false := by simpa using c69
  clear c69
  obtain ⟨⟨t694, t695, t696, t697, t698, t699, t700, t701, t702, t703, t704⟩, A740, H⟩ := hB H
  try dsimp only at H
  have A74 := aM A740
  clear A740
  by_cases c75 : (!(t648 == t694) || (!(t649 == t695) || ((!(t650 == t696) || (!(t651 == t697) || (!(t652 == t698) || (!(t653 == t699))))) || (!(t654 == t700) || (!(t655 == t701) || (!(t656 == t702) || (!(t657 == t703) || (!(t658 == t704))))))))) = true
  case pos =>
   rw [if_pos c75] at H
   have c75b0 : (!(t648 == t694) || (!(t649 == t695) || ((!(t650 == t696) || (!(t651 == t697) || (!(t652 == t698) || (!(t653 == t699))))) || (!(t654 == t700) || (!(t655 == t701) || (!(t656 == t702) || (!(t657 == t703) || (!(t658 == t704))))))))) = true := c75
   clear c75
   exact absurd H (laws_FnPorts.j0_no _ _ _ _ _ _ _ _ _ _ _ _ _ _ _ _ _ _ _ _ _ _ _ _ _ _ _ _ _ _ _ _ _ _ _ _ _ _ _ _ _ _ _ _ _ _ _ _ _ _ _ _ _ _ _ _ _ _ _ _ _ _ _ _ _ _ _)
  rw [if_neg c75] at H
  have c75b0 : (!(t648 == t694) || (!(t649 == t695) || ((!(t650 == t696) || (!(t651 == t697) || (!(t652 == t698) || (!(t653 == t699))))) || (!(t654 == t700) || (!(t655 == t701) || (!(t656 == t702) || (!(t657 == t703) || (!(t658 == t704))))))))) = false := by simpa using c75
  clear c75
  obtain ⟨t705, A810, H⟩ := hB H
  have A81 := aM A810
  clear A810
  obtain ⟨t706, A820, H⟩ := hB H
  have A82 := aM A820
  clear A820
  have H' := aM H
  clear H
  try go_wp2
  refine nW (fun W => Aside0 (W.heap[gb597]? = some (.cells #[.bool t581, .bool t582, .int .i64 t583, .int .i64 t584, .int .i64 t585, .int .i64 t586, .int .i64 t587, .int .i64 t588, .int .i64 t589, .int .i64 t590, .bool t591] 38 (0, 0))) ∧ Aside0 (W.heap[gb598]? = some (.cells #[.int .i64 t592, .int .i64 t593, .int .i64 t594, .int .i64 t595] 36 (0, 0))) ∧ Aside0 (W.heap[gb610]? = some (.cells #[.bool t599, .bool t600, .int .i64 t601, .int .i64 t602, .int .i64 t603, .int .i64 t604, .int .i64 t605, .int .i64 t606, .int .i64 t607, .int .i64 t608, .bool t609] 38 (0, 0))) ∧ Aside0 (W.heap[gb622]? = some (.cells #[.bool t611, .bool t612, .int .i64 t613, .int .i64 t614, .int .i64 t615, .int .i64 t616, .int .i64 t617, .int .i64 t618, .int .i64 t619, .int .i64 t620, .bool t621] 38 (0, 0))) ∧ Aside0 (W.heap[gb634]? = some (.cells #[.bool t623, .bool t624, .int .i64 t625, .int .i64 t626, .int .i64 t627, .int .i64 t628, .int .i64 t629, .int .i64 t630, .int .i64 t631, .int .i64 t632, .bool t633] 38 (0, 0))) ∧ Aside0 (W.heap[gb647]? = some (.cells #[.bool t635, .bool t636, .int .i64 t637, .int .i64 t638, .int .i64 t639, .int .i64 t640, .int .i64 t641, .int .i64 t642, .int .i64 t643, .int .i64 t644, .bool t645] 38 (0, 0))) ∧ Aside0 (W.heap[gb659]? = some (.cells #[.bool t648, .bool t649, .int .i64 t650, .int .i64 t651, .int .i64 t652, .int .i64 t653, .int .i64 t654, .int .i64 t655, .int .i64 t656, .int .i64 t657, .bool t658] 38 (0, 0))) ∧ Aside0 (W.heap[gb671]? = some (.cells #[.bool t660, .bool t661, .int .i64 t662, .int .i64 t663, .int .i64 t664, .int .i64 t665, .int .i64 t666, .int .i64 t667, .int .i64 t668, .int .i64 t669, .bool t670] 38 (0, 0))) ∧ Aside0 (Below w.heap.size w W)) ⟨⟨fm BK597.out⟩, ⟨fm BK598.out⟩, ⟨fm BK610.out⟩, ⟨fm BK622.out⟩, ⟨fm BK634.out⟩, ⟨fm BK647.out⟩, ⟨fm BK659.out⟩, ⟨bm BK671.out⟩, ⟨bl HB.out⟩⟩ ?_
  intro w83 nn_
  replace BK597 := nn_.1
  replace BK598 := nn_.2.1
  replace BK610 := nn_.2.2.1
  replace BK622 := nn_.2.2.2.1
  replace BK634 := nn_.2.2.2.2.1
  replace BK647 := nn_.2.2.2.2.2.1
  replace BK659 := nn_.2.2.2.2.2.2.1
  replace BK671 := nn_.2.2.2.2.2.2.2.1
  replace HB := nn_.2.2.2.2.2.2.2.2
  clear nn_
  replace BK597 := aM (blk_drew BK597.out)
  replace BK598 := aM (blk_drew BK598.out)
  replace BK610 := aM (blk_drew BK610.out)
  replace BK622 := aM (blk_drew BK622.out)
  replace BK634 := aM (blk_drew BK634.out)
  replace BK647 := aM (blk_drew BK647.out)
  replace BK659 := aM (blk_drew BK659.out)
  replace BK671 := aM (blk_drew BK671.out)
  replace HB := aM (below_drew1 HB.out)
  refine start_ (n := 26) (S := fun w' => cT11 w' gb610 (.bool t599) (.bool t600) (.int .i64 t601) (.int .i64 t602) (.int .i64 t603) (.int .i64 t604) (.int .i64 t605) (.int .i64 t606) (.int .i64 t607) (.int .i64 t608) (.bool t609) (cT11 w' gb597 (.bool t581) (.bool t582) (.int .i64 t583) (.int .i64 t584) (.int .i64 t585) (.int .i64 t586) (.int .i64 t587) (.int .i64 t588) (.int .i64 t589) (.int .i64 t590) (.bool t591) (cT4 w' gb598 (.int .i64 t592) (.int .i64 t593) (.int .i64 t594) (.int .i64 t595) (cT11 w' gb634 (.bool t623) (.bool t624) (.int .i64 t625) (.int .i64 t626) (.int .i64 t627) (.int .i64 t628) (.int .i64 t629) (.int .i64 t630) (.int .i64 t631) (.int .i64 t632) (.bool t633) (cT11 w' gb622 (.bool t611) (.bool t612) (.int .i64 t613) (.int .i64 t614) (.int .i64 t615) (.int .i64 t616) (.int .i64 t617) (.int .i64 t618) (.int .i64 t619) (.int .i64 t620) (.bool t621) (cT11 w' gb659 (.bool t648) (.bool t649) (.int .i64 t650) (.int .i64 t651) (.int .i64 t652) (.int .i64 t653) (.int .i64 t654) (.int .i64 t655) (.int .i64 t656) (.int .i64 t657) (.bool t658) (cT11 w' gb647 (.bool t635) (.bool t636) (.int .i64 t637) (.int .i64 t638) (.int .i64 t639) (.int .i64 t640) (.int .i64 t641) (.int .i64 t642) (.int .i64 t643) (.int .i64 t644) (.bool t645) (cS11 w' gb671 (.bool t660) (.bool t661) (.int .i64 t662) (.int .i64 t663) (.int .i64 t664) (.int .i64 t665) (.int .i64 t666) (.int .i64 t667) (.int .i64 t668) (.int .i64 t669) (.bool t670))))))))) (ds := []) (dn 26 0) (by kernel_rfl) rfl rfl ⟨cI BK610.out 0, cI BK610.out 1, cI BK610.out 2, cI BK610.out 3, cI BK610.out 4, cI BK610.out 5, cI BK610.out 6, cI BK610.out 7, cI BK610.out 8, cI BK610.out 9, cI BK610.out 10, cI BK597.out 0, cI BK597.out 1, cI BK597.out 2, cI BK597.out 3, cI BK597.out 4, cI BK597.out 5, cI BK597.out 6, cI BK597.out 7, cI BK597.out 8, cI BK597.out 9, cI BK597.out 10, cI BK598.out 0, cI BK598.out 1, cI BK598.out 2, cI BK598.out 3, cI BK634.out 0, cI BK634.out 1, cI BK634.out 2, cI BK634.out 3, cI BK634.out 4, cI BK634.out 5, cI BK634.out 6, cI BK634.out 7, cI BK634.out 8, cI BK634.out 9, cI BK634.out 10, cI BK622.out 0, cI BK622.out 1, cI BK622.out 2, cI BK622.out 3, cI BK622.out 4, cI BK622.out 5, cI BK622.out 6, cI BK622.out 7, cI BK622.out 8, cI BK622.out 9, cI BK622.out 10, cI BK659.out 0, cI BK659.out 1, cI BK659.out 2, cI BK659.out 3, cI BK659.out 4, cI BK659.out 5, cI BK659.out 6, cI BK659.out 7, cI BK659.out 8, cI BK659.out 9, cI BK659.out 10, cI BK647.out 0, cI BK647.out 1, cI BK647.out 2, cI BK647.out 3, cI BK647.out 4, cI BK647.out 5, cI BK647.out 6, cI BK647.out 7, cI BK647.out 8, cI BK647.out 9, cI BK647.out 10, cI BK671.out 0, cI BK671.out 1, cI BK671.out 2, cI BK671.out 3, cI BK671.out 4, cI BK671.out 5, cI BK671.out 6, cI BK671.out 7, cI BK671.out 8, cI BK671.out 9, cI BK671.out 10⟩ (fun hHeld => ?_); refine with_tabW laws_FnPorts.tab10 laws_FnPorts.bits10 (fun HT_ HW_ => ?_)
  generalize w83.drew = w84 at BK597 BK598 BK610 BK622 BK634 BK647 BK659 BK671 HB hHeld ⊢
  refine pY (i := 3) (N := some 42) #[U,U,U,Y,U,U,U,U,U,U,U,U,U,U,U,U,U,U,U,U,U,U,U,U,U,U] HT_ ?_
  refine aY (i := 0) (N := some 39) #[Y,U,U,Y,U,U,U,U,U,U,U,U,U,U,U,U,U,U,U,U,U,U,U,U,U,U] HT_ HW_ hHeld ?_
  refine aY (i := 1) (N := some 40) #[Y,Y,U,Y,U,U,U,U,U,U,U,U,U,U,U,U,U,U,U,U,U,U,U,U,U,U] HT_ HW_ hHeld ?_
  refine aY (i := 2) (N := some 41) #[Y,Y,Y,Y,U,U,U,U,U,U,U,U,U,U,U,U,U,U,U,U,U,U,U,U,U,U] HT_ HW_ hHeld ?_
  refine one_ (i := 4) (N := some 43) #[Y,Y,Y,Y,Y,U,U,U,U,U,U,U,U,U,U,U,U,U,U,U,U,U,U,U,U,U] rfl rfl (one_of HT_.out (by kernel_rfl)) (by decide) (fun K hK => ?_)
  refine goes_ Try.func25 (by kernel_rfl) rfl #[.agg #[.bool t581, .bool t582, .int .i64 t583, .int .i64 t584, .int .i64 t585, .int .i64 t586, .int .i64 t587, .int .i64 t588, .int .i64 t589, .int .i64 t590, .bool t591], .agg #[.int .i64 t592, .int .i64 t593, .int .i64 t594, .int .i64 t595], .int .i64 t596] (by rfl) rfl rfl xR ?_
  with_reducible refine (spec_Claim.calls k t581 t582 t583 t584 t585 t586 t587 t588 t589 t590 t591 t592 t593 t594 t595 t596 t672 t673 t674 t675 t676 t677 t678 t679 t680 t681 t682 _ A63.out).mono ?_
  rintro e w85 ⟨rfl, hb⟩
  refine ⟨_, rfl, ?_⟩
  replace BK597 := aM (bB (bk BK597.out) hb)
  replace BK598 := aM (bB (bk BK598.out) hb)
  replace BK610 := aM (bB (bk BK610.out) hb)
  replace BK622 := aM (bB (bk BK622.out) hb)
  replace BK634 := aM (bB (bk BK634.out) hb)
  replace BK647 := aM (bB (bk BK647.out) hb)
  replace BK659 := aM (bB (bk BK659.out) hb)
  replace BK671 := aM (bB (bk BK671.out) hb)
  replace HB := aM (bS (bl HB.out) hb)
  (try clear hb)
  (try clear hb2)
  (try clear hk)
  (try clear hi)
  refine hK.out _ _ ⟨cI BK610.out 0, cI BK610.out 1, cI BK610.out 2, cI BK610.out 3, cI BK610.out 4, cI BK610.out 5, cI BK610.out 6, cI BK610.out 7, cI BK610.out 8, cI BK610.out 9, cI BK610.out 10, cI BK597.out 0, cI BK597.out 1, cI BK597.out 2, cI BK597.out 3, cI BK597.out 4, cI BK597.out 5, cI BK597.out 6, cI BK597.out 7, cI BK597.out 8, cI BK597.out 9, cI BK597.out 10, cI BK598.out 0, cI BK598.out 1, cI BK598.out 2, cI BK598.out 3, cI BK634.out 0, cI BK634.out 1, cI BK634.out 2, cI BK634.out 3, cI BK634.out 4, cI BK634.out 5, cI BK634.out 6, cI BK634.out 7, cI BK634.out 8, cI BK634.out 9, cI BK634.out 10, cI BK622.out 0, cI BK622.out 1, cI BK622.out 2, cI BK622.out 3, cI BK622.out 4, cI BK622.out 5, cI BK622.out 6, cI BK622.out 7, cI BK622.out 8, cI BK622.out 9, cI BK622.out 10, cI BK659.out 0, cI BK659.out 1, cI BK659.out 2, cI BK659.out 3, cI BK659.out 4, cI BK659.out 5, cI BK659.out 6, cI BK659.out 7, cI BK659.out 8, cI BK659.out 9, cI BK659.out 10, cI BK647.out 0, cI BK647.out 1, cI BK647.out 2, cI BK647.out 3, cI BK647.out 4, cI BK647.out 5, cI BK647.out 6, cI BK647.out 7, cI BK647.out 8, cI BK647.out 9, cI BK647.out 10, cI BK671.out 0, cI BK671.out 1, cI BK671.out 2, cI BK671.out 3, cI BK671.out 4, cI BK671.out 5, cI BK671.out 6, cI BK671.out 7, cI BK671.out 8, cI BK671.out 9, cI BK671.out 10⟩ (fun hHeld => ?_)
  clear hK K
  refine norm_ (a' := ?_) ?_ ?_
  rotate_left
  ·show Act.put _ (some 43) _ = _
   simp only [Act.put, sA, sZ, sS, i64_w, i32_w]
   rfl
  refine pY (i := 5) (N := some 44) #[Y,Y,Y,Y,Y,Y,U,U,U,U,U,U,U,U,U,U,U,U,U,U,U,U,U,U,U,U] HT_ ?_
  refine pY (i := 6) (N := some 45) #[Y,Y,Y,Y,Y,Y,Y,U,U,U,U,U,U,U,U,U,U,U,U,U,U,U,U,U,U,U] HT_ ?_
  refine aY (i := 7) (N := some 46) #[Y,Y,Y,Y,Y,Y,Y,Y,U,U,U,U,U,U,U,U,U,U,U,U,U,U,U,U,U,U] HT_ HW_ hHeld ?_
  refine aY (i := 8) (N := some 47) #[Y,Y,Y,Y,Y,Y,Y,Y,Y,U,U,U,U,U,U,U,U,U,U,U,U,U,U,U,U,U] HT_ HW_ hHeld ?_
  refine one_ (i := 9) (N := some 48) #[Y,Y,Y,Y,Y,Y,Y,Y,Y,Y,U,U,U,U,U,U,U,U,U,U,U,U,U,U,U,U] rfl rfl (one_of HT_.out (by kernel_rfl)) (by decide) (fun K hK => ?_)
  refine goes_ Try.func26 (by kernel_rfl) rfl #[.agg #[.bool t611, .bool t612, .int .i64 t613, .int .i64 t614, .int .i64 t615, .int .i64 t616, .int .i64 t617, .int .i64 t618, .int .i64 t619, .int .i64 t620, .bool t621]] (by rfl) rfl rfl xR ?_
  with_reducible refine (spec_Fade.calls k t611 t612 t613 t614 t615 t616 t617 t618 t619 t620 t621 t683 t684 t685 t686 t687 t688 t689 t690 t691 t692 t693 _ A68.out).mono ?_
  rintro e w86 ⟨rfl, hb⟩
  refine ⟨_, rfl, ?_⟩
  replace BK597 := aM (bB (bk BK597.out) hb)
  replace BK598 := aM (bB (bk BK598.out) hb)
  replace BK610 := aM (bB (bk BK610.out) hb)
  replace BK622 := aM (bB (bk BK622.out) hb)
  replace BK634 := aM (bB (bk BK634.out) hb)
  replace BK647 := aM (bB (bk BK647.out) hb)
  replace BK659 := aM (bB (bk BK659.out) hb)
  replace BK671 := aM (bB (bk BK671.out) hb)
  replace HB := aM (bS (bl HB.out) hb)
  (try clear hb)
  (try clear hb2)
  (try clear hk)
  (try clear hi)
  refine hK.out _ _ ⟨cI BK610.out 0, cI BK610.out 1, cI BK610.out 2, cI BK610.out 3, cI BK610.out 4, cI BK610.out 5, cI BK610.out 6, cI BK610.out 7, cI BK610.out 8, cI BK610.out 9, cI BK610.out 10, cI BK597.out 0, cI BK597.out 1, cI BK597.out 2, cI BK597.out 3, cI BK597.out 4, cI BK597.out 5, cI BK597.out 6, cI BK597.out 7, cI BK597.out 8, cI BK597.out 9, cI BK597.out 10, cI BK598.out 0, cI BK598.out 1, cI BK598.out 2, cI BK598.out 3, cI BK634.out 0, cI BK634.out 1, cI BK634.out 2, cI BK634.out 3, cI BK634.out 4, cI BK634.out 5, cI BK634.out 6, cI BK634.out 7, cI BK634.out 8, cI BK634.out 9, cI BK634.out 10, cI BK622.out 0, cI BK622.out 1, cI BK622.out 2, cI BK622.out 3, cI BK622.out 4, cI BK622.out 5, cI BK622.out 6, cI BK622.out 7, cI BK622.out 8, cI BK622.out 9, cI BK622.out 10, cI BK659.out 0, cI BK659.out 1, cI BK659.out 2, cI BK659.out 3, cI BK659.out 4, cI BK659.out 5, cI BK659.out 6, cI BK659.out 7, cI BK659.out 8, cI BK659.out 9, cI BK659.out 10, cI BK647.out 0, cI BK647.out 1, cI BK647.out 2, cI BK647.out 3, cI BK647.out 4, cI BK647.out 5, cI BK647.out 6, cI BK647.out 7, cI BK647.out 8, cI BK647.out 9, cI BK647.out 10, cI BK671.out 0, cI BK671.out 1, cI BK671.out 2, cI BK671.out 3, cI BK671.out 4, cI BK671.out 5, cI BK671.out 6, cI BK671.out 7, cI BK671.out 8, cI BK671.out 9, cI BK671.out 10⟩ (fun hHeld => ?_)
  clear hK K
  refine norm_ (a' := ?_) ?_ ?_
  rotate_left
  ·show Act.put _ (some 48) _ = _
   simp only [Act.put, sA, sZ, sS, i64_w, i32_w]
   rfl
  refine pY (i := 10) (N := some 49) #[Y,Y,Y,Y,Y,Y,Y,Y,Y,Y,Y,U,U,U,U,U,U,U,U,U,U,U,U,U,U,U] HT_ ?_
  refine pY (i := 11) (N := some 50) #[Y,Y,Y,Y,Y,Y,Y,Y,Y,Y,Y,Y,U,U,U,U,U,U,U,U,U,U,U,U,U,U] HT_ ?_
  refine pY (i := 12) (N := some 51) #[Y,Y,Y,Y,Y,Y,Y,Y,Y,Y,Y,Y,Y,U,U,U,U,U,U,U,U,U,U,U,U,U] HT_ ?_
  refine pY (i := 15) (N := some 54) #[Y,Y,Y,Y,Y,Y,Y,Y,Y,Y,Y,Y,Y,U,U,Y,U,U,U,U,U,U,U,U,U,U] HT_ ?_
  refine aY (i := 13) (N := some 52) #[Y,Y,Y,Y,Y,Y,Y,Y,Y,Y,Y,Y,Y,Y,U,Y,U,U,U,U,U,U,U,U,U,U] HT_ HW_ hHeld ?_
  refine aY (i := 14) (N := some 53) #[Y,Y,Y,Y,Y,Y,Y,Y,Y,Y,Y,Y,Y,Y,Y,Y,U,U,U,U,U,U,U,U,U,U] HT_ HW_ hHeld ?_
  refine one_ (i := 16) (N := some 55) #[Y,Y,Y,Y,Y,Y,Y,Y,Y,Y,Y,Y,Y,Y,Y,Y,Y,U,U,U,U,U,U,U,U,U] rfl rfl (one_of HT_.out (by kernel_rfl)) (by decide) (fun K hK => ?_)
  refine goes_ Try.func27 (by kernel_rfl) rfl #[.agg #[.bool t635, .bool t636, .int .i64 t637, .int .i64 t638, .int .i64 t639, .int .i64 t640, .int .i64 t641, .int .i64 t642, .int .i64 t643, .int .i64 t644, .bool t645], .int .i64 t646] (by rfl) rfl rfl xR ?_
  with_reducible refine (spec_Turn.calls k t635 t636 t637 t638 t639 t640 t641 t642 t643 t644 t645 t646 t694 t695 t696 t697 t698 t699 t700 t701 t702 t703 t704 _ A74.out).mono ?_
  rintro e w87 ⟨rfl, hb⟩
  refine ⟨_, rfl, ?_⟩
  replace BK597 := aM (bB (bk BK597.out) hb)
  replace BK598 := aM (bB (bk BK598.out) hb)
  replace BK610 := aM (bB (bk BK610.out) hb)
  replace BK622 := aM (bB (bk BK622.out) hb)
  replace BK634 := aM (bB (bk BK634.out) hb)
  replace BK647 := aM (bB (bk BK647.out) hb)
  replace BK659 := aM (bB (bk BK659.out) hb)
  replace BK671 := aM (bB (bk BK671.out) hb)
  replace HB := aM (bS (bl HB.out) hb)
  (try clear hb)
  (try clear hb2)
  (try clear hk)
  (try clear hi)
  refine hK.out _ _ ⟨cI BK610.out 0, cI BK610.out 1, cI BK610.out 2, cI BK610.out 3, cI BK610.out 4, cI BK610.out 5, cI BK610.out 6, cI BK610.out 7, cI BK610.out 8, cI BK610.out 9, cI BK610.out 10, cI BK597.out 0, cI BK597.out 1, cI BK597.out 2, cI BK597.out 3, cI BK597.out 4, cI BK597.out 5, cI BK597.out 6, cI BK597.out 7, cI BK597.out 8, cI BK597.out 9, cI BK597.out 10, cI BK598.out 0, cI BK598.out 1, cI BK598.out 2, cI BK598.out 3, cI BK634.out 0, cI BK634.out 1, cI BK634.out 2, cI BK634.out 3, cI BK634.out 4, cI BK634.out 5, cI BK634.out 6, cI BK634.out 7, cI BK634.out 8, cI BK634.out 9, cI BK634.out 10, cI BK622.out 0, cI BK622.out 1, cI BK622.out 2, cI BK622.out 3, cI BK622.out 4, cI BK622.out 5, cI BK622.out 6, cI BK622.out 7, cI BK622.out 8, cI BK622.out 9, cI BK622.out 10, cI BK659.out 0, cI BK659.out 1, cI BK659.out 2, cI BK659.out 3, cI BK659.out 4, cI BK659.out 5, cI BK659.out 6, cI BK659.out 7, cI BK659.out 8, cI BK659.out 9, cI BK659.out 10, cI BK647.out 0, cI BK647.out 1, cI BK647.out 2, cI BK647.out 3, cI BK647.out 4, cI BK647.out 5, cI BK647.out 6, cI BK647.out 7, cI BK647.out 8, cI BK647.out 9, cI BK647.out 10, cI BK671.out 0, cI BK671.out 1, cI BK671.out 2, cI BK671.out 3, cI BK671.out 4, cI BK671.out 5, cI BK671.out 6, cI BK671.out 7, cI BK671.out 8, cI BK671.out 9, cI BK671.out 10⟩ (fun hHeld => ?_)
  clear hK K
  refine norm_ (a' := ?_) ?_ ?_
  rotate_left
  ·show Act.put _ (some 55) _ = _
   simp only [Act.put, sA, sZ, sS, i64_w, i32_w]
   rfl
  refine pY (i := 17) (N := some 56) #[Y,Y,Y,Y,Y,Y,Y,Y,Y,Y,Y,Y,Y,Y,Y,Y,Y,Y,U,U,U,U,U,U,U,U] HT_ ?_
  refine pY (i := 18) (N := some 57) #[Y,Y,Y,Y,Y,Y,Y,Y,Y,Y,Y,Y,Y,Y,Y,Y,Y,Y,Y,U,U,U,U,U,U,U] HT_ ?_
  refine pY (i := 19) (N := some 58) #[Y,Y,Y,Y,Y,Y,Y,Y,Y,Y,Y,Y,Y,Y,Y,Y,Y,Y,Y,Y,U,U,U,U,U,U] HT_ ?_
  refine aY (i := 20) (N := some 59) #[Y,Y,Y,Y,Y,Y,Y,Y,Y,Y,Y,Y,Y,Y,Y,Y,Y,Y,Y,Y,Y,U,U,U,U,U] HT_ HW_ hHeld ?_
  refine aY (i := 22) (N := some 61) #[Y,Y,Y,Y,Y,Y,Y,Y,Y,Y,Y,Y,Y,Y,Y,Y,Y,Y,Y,Y,Y,U,Y,U,U,U] HT_ HW_ hHeld ?_
  refine one_ (i := 21) (N := some 60) #[Y,Y,Y,Y,Y,Y,Y,Y,Y,Y,Y,Y,Y,Y,Y,Y,Y,Y,Y,Y,Y,Y,Y,U,U,U] rfl rfl (one_of HT_.out (by kernel_rfl)) (by decide) (fun K hK => ?_)
  refine goes_ Try.func28 (by kernel_rfl) rfl #[.agg #[.bool t660, .bool t661, .int .i64 t662, .int .i64 t663, .int .i64 t664, .int .i64 t665, .int .i64 t666, .int .i64 t667, .int .i64 t668, .int .i64 t669, .bool t670]] (by rfl) rfl rfl xR ?_
  with_reducible refine (impl_PortOk.calls k t660 t661 t662 t663 t664 t665 t666 t667 t668 t669 t670 t705 _ A81.out).mono ?_
  rintro e w88 ⟨rfl, hb⟩
  refine ⟨_, rfl, ?_⟩
  replace BK597 := aM (bB (bk BK597.out) hb)
  replace BK598 := aM (bB (bk BK598.out) hb)
  replace BK610 := aM (bB (bk BK610.out) hb)
  replace BK622 := aM (bB (bk BK622.out) hb)
  replace BK634 := aM (bB (bk BK634.out) hb)
  replace BK647 := aM (bB (bk BK647.out) hb)
  replace BK659 := aM (bB (bk BK659.out) hb)
  replace BK671 := aM (bB (bk BK671.out) hb)
  replace HB := aM (bS (bl HB.out) hb)
  (try clear hb)
  (try clear hb2)
  (try clear hk)
  (try clear hi)
  refine hK.out _ _ ⟨cI BK610.out 0, cI BK610.out 1, cI BK610.out 2, cI BK610.out 3, cI BK610.out 4, cI BK610.out 5, cI BK610.out 6, cI BK610.out 7, cI BK610.out 8, cI BK610.out 9, cI BK610.out 10, cI BK597.out 0, cI BK597.out 1, cI BK597.out 2, cI BK597.out 3, cI BK597.out 4, cI BK597.out 5, cI BK597.out 6, cI BK597.out 7, cI BK597.out 8, cI BK597.out 9, cI BK597.out 10, cI BK598.out 0, cI BK598.out 1, cI BK598.out 2, cI BK598.out 3, cI BK634.out 0, cI BK634.out 1, cI BK634.out 2, cI BK634.out 3, cI BK634.out 4, cI BK634.out 5, cI BK634.out 6, cI BK634.out 7, cI BK634.out 8, cI BK634.out 9, cI BK634.out 10, cI BK622.out 0, cI BK622.out 1, cI BK622.out 2, cI BK622.out 3, cI BK622.out 4, cI BK622.out 5, cI BK622.out 6, cI BK622.out 7, cI BK622.out 8, cI BK622.out 9, cI BK622.out 10, cI BK659.out 0, cI BK659.out 1, cI BK659.out 2, cI BK659.out 3, cI BK659.out 4, cI BK659.out 5, cI BK659.out 6, cI BK659.out 7, cI BK659.out 8, cI BK659.out 9, cI BK659.out 10, cI BK647.out 0, cI BK647.out 1, cI BK647.out 2, cI BK647.out 3, cI BK647.out 4, cI BK647.out 5, cI BK647.out 6, cI BK647.out 7, cI BK647.out 8, cI BK647.out 9, cI BK647.out 10, cI BK671.out 0, cI BK671.out 1, cI BK671.out 2, cI BK671.out 3, cI BK671.out 4, cI BK671.out 5, cI BK671.out 6, cI BK671.out 7, cI BK671.out 8, cI BK671.out 9, cI BK671.out 10⟩ (fun hHeld => ?_)
  clear hK K
  refine norm_ (a' := ?_) ?_ ?_
  rotate_left
  ·show Act.put _ (some 60) _ = _
   simp only [Act.put, sA, sZ, sS, i64_w, i32_w]
   rfl
  refine one_ (i := 23) (N := some 62) #[Y,Y,Y,Y,Y,Y,Y,Y,Y,Y,Y,Y,Y,Y,Y,Y,Y,Y,Y,Y,Y,Y,Y,Y,U,U] rfl rfl (one_of HT_.out (by kernel_rfl)) (by decide) (fun K hK => ?_)
  refine goes_ Try.func29 (by kernel_rfl) rfl #[.agg #[.bool t660, .bool t661, .int .i64 t662, .int .i64 t663, .int .i64 t664, .int .i64 t665, .int .i64 t666, .int .i64 t667, .int .i64 t668, .int .i64 t669, .bool t670]] (by rfl) rfl rfl xR ?_
  with_reducible refine (spec_PortOk.calls k t660 t661 t662 t663 t664 t665 t666 t667 t668 t669 t670 t706 _ A82.out).mono ?_
  rintro e w89 ⟨rfl, hb⟩
  refine ⟨_, rfl, ?_⟩
  replace BK597 := aM (bB (bk BK597.out) hb)
  replace BK598 := aM (bB (bk BK598.out) hb)
  replace BK610 := aM (bB (bk BK610.out) hb)
  replace BK622 := aM (bB (bk BK622.out) hb)
  replace BK634 := aM (bB (bk BK634.out) hb)
  replace BK647 := aM (bB (bk BK647.out) hb)
  replace BK659 := aM (bB (bk BK659.out) hb)
  replace BK671 := aM (bB (bk BK671.out) hb)
  replace HB := aM (bS (bl HB.out) hb)
  (try clear hb)
  (try clear hb2)
  (try clear hk)
  (try clear hi)
  refine hK.out _ _ ⟨cI BK610.out 0, cI BK610.out 1, cI BK610.out 2, cI BK610.out 3, cI BK610.out 4, cI BK610.out 5, cI BK610.out 6, cI BK610.out 7, cI BK610.out 8, cI BK610.out 9, cI BK610.out 10, cI BK597.out 0, cI BK597.out 1, cI BK597.out 2, cI BK597.out 3, cI BK597.out 4, cI BK597.out 5, cI BK597.out 6, cI BK597.out 7, cI BK597.out 8, cI BK597.out 9, cI BK597.out 10, cI BK598.out 0, cI BK598.out 1, cI BK598.out 2, cI BK598.out 3, cI BK634.out 0, cI BK634.out 1, cI BK634.out 2, cI BK634.out 3, cI BK634.out 4, cI BK634.out 5, cI BK634.out 6, cI BK634.out 7, cI BK634.out 8, cI BK634.out 9, cI BK634.out 10, cI BK622.out 0, cI BK622.out 1, cI BK622.out 2, cI BK622.out 3, cI BK622.out 4, cI BK622.out 5, cI BK622.out 6, cI BK622.out 7, cI BK622.out 8, cI BK622.out 9, cI BK622.out 10, cI BK659.out 0, cI BK659.out 1, cI BK659.out 2, cI BK659.out 3, cI BK659.out 4, cI BK659.out 5, cI BK659.out 6, cI BK659.out 7, cI BK659.out 8, cI BK659.out 9, cI BK659.out 10, cI BK647.out 0, cI BK647.out 1, cI BK647.out 2, cI BK647.out 3, cI BK647.out 4, cI BK647.out 5, cI BK647.out 6, cI BK647.out 7, cI BK647.out 8, cI BK647.out 9, cI BK647.out 10, cI BK671.out 0, cI BK671.out 1, cI BK671.out 2, cI BK671.out 3, cI BK671.out 4, cI BK671.out 5, cI BK671.out 6, cI BK671.out 7, cI BK671.out 8, cI BK671.out 9, cI BK671.out 10⟩ (fun hHeld => ?_)
  clear hK K
  refine norm_ (a' := ?_) ?_ ?_
  rotate_left
  ·show Act.put _ (some 62) _ = _
   simp only [Act.put, sA, sZ, sS, i64_w, i32_w]
   rfl
  refine pY (i := 24) (N := some 63) #[Y,Y,Y,Y,Y,Y,Y,Y,Y,Y,Y,Y,Y,Y,Y,Y,Y,Y,Y,Y,Y,Y,Y,Y,Y,U] HT_ ?_
  refine pY (i := 25) (N := some 64) #[Y,Y,Y,Y,Y,Y,Y,Y,Y,Y,Y,Y,Y,Y,Y,Y,Y,Y,Y,Y,Y,Y,Y,Y,Y,Y] HT_ ?_
  refine done_ (done_of HT_.out (by kernel_rfl)) ?_
  try go_wp2
  go_meet
  case rel => exact ⟨_, ((t705 != t706)), xE, H', ⟨by first | omega | exact Nat.le_refl _⟩, ⟨by (with_reducible repeat (first | refine blk_drewN ?_ _ | refine blk_drew ?_ | refine blk_alloc ?_ _)); exact BK597.out⟩, ⟨by (with_reducible repeat (first | refine blk_drewN ?_ _ | refine blk_drew ?_ | refine blk_alloc ?_ _)); exact BK598.out⟩, ⟨by (with_reducible repeat (first | refine blk_drewN ?_ _ | refine blk_drew ?_ | refine blk_alloc ?_ _)); exact BK610.out⟩, ⟨by (with_reducible repeat (first | refine blk_drewN ?_ _ | refine blk_drew ?_ | refine blk_alloc ?_ _)); exact BK622.out⟩, ⟨by (with_reducible repeat (first | refine blk_drewN ?_ _ | refine blk_drew ?_ | refine blk_alloc ?_ _)); exact BK634.out⟩, ⟨by (with_reducible repeat (first | refine blk_drewN ?_ _ | refine blk_drew ?_ | refine blk_alloc ?_ _)); exact BK647.out⟩, ⟨by (with_reducible repeat (first | refine blk_drewN ?_ _ | refine blk_drew ?_ | refine blk_alloc ?_ _)); exact BK659.out⟩, ⟨by (with_reducible repeat (first | refine blk_drewN ?_ _ | refine blk_drew ?_ | refine blk_alloc ?_ _)); exact BK671.out⟩, ⟨bl HB.out⟩⟩
 case rest =>
  clear HC11
  try clear c2
  try clear p2
  try clear c7
  try clear c25
  try clear c26
  try clear c27
  try clear c28
  try clear c29
  try clear c75
  try clear c75b0
  obtain ⟨kq, x64_10, rfl, HA, HJ10, BK597, BK598, BK610, BK622, BK634, BK647, BK659, BK671, HB⟩ := hcut
  cases kq with
  | zero => exact absurd HA.out (by simp [laws_FnPorts.j0])
  | succ kj10 =>
   have H := HA.out
   clear HA
   simp only [laws_FnPorts.j0] at H
   by_cases c90 : x64_10 = true
   case pos =>
    subst c90
    have H1 : (some false) = some true := by first | (rw [if_pos rfl] at H; exact H) | (rw [if_pos rfl] at H)
    clear H
    have H := H1
    clear H1
    exact absurd (Option.some.inj H) (by decide)
   replace c90 := Bool.eq_false_iff.mpr c90
   subst c90
   have H1 : ((impl_PortOk.f kj10 t581 t582 t583 t584 t585 t586 t587 t588 t589 t590 t591).bind fun t707 => (if t707 = true then ((impl_PortOk.f kj10 t599 t600 t601 t602 t603 t604 t605 t606 t607 t608 t609).bind fun t708 => (if t708 = true then (if t582 = true then (if t600 = true then ((impl_PortOk.f kj10 t635 t636 t637 t638 t639 t640 t641 t642 t643 t644 t645).bind fun t709 => (if t709 = true then ((impl_PortOk.f kj10 t648 t649 t650 t651 t652 t653 t654 t655 t656 t657 t658).bind fun t710 => (laws_FnPorts.j1 kj10 (!t710) t611 t612 t613 t614 t615 t616 t617 t618 t619 t620 t621 t623 t624 t625 t626 t627 t628 t629 t630 t631 t632 t633)) else (laws_FnPorts.j1 kj10 false t611 t612 t613 t614 t615 t616 t617 t618 t619 t620 t621 t623 t624 t625 t626 t627 t628 t629 t630 t631 t632 t633))) else (laws_FnPorts.j1 kj10 true t611 t612 t613 t614 t615 t616 t617 t618 t619 t620 t621 t623 t624 t625 t626 t627 t628 t629 t630 t631 t632 t633)) else ((impl_PortOk.f kj10 t635 t636 t637 t638 t639 t640 t641 t642 t643 t644 t645).bind fun t711 => (if t711 = true then ((impl_PortOk.f kj10 t648 t649 t650 t651 t652 t653 t654 t655 t656 t657 t658).bind fun t712 => (laws_FnPorts.j1 kj10 (!t712) t611 t612 t613 t614 t615 t616 t617 t618 t619 t620 t621 t623 t624 t625 t626 t627 t628 t629 t630 t631 t632 t633)) else (laws_FnPorts.j1 kj10 false t611 t612 t613 t614 t615 t616 t617 t618 t619 t620 t621 t623 t624 t625 t626 t627 t628 t629 t630 t631 t632 t633)))) else (laws_FnPorts.j1 kj10 true t611 t612 t613 t614 t615 t616 t617 t618 t619 t620 t621 t623 t624 t625 t626 t627 t628 t629 t630 t631 t632 t633))) else ((impl_PortOk.f kj10 t635 t636 t637 t638 t639 t640 t641 t642 t643 t644 t645).bind fun t713 => (if t713 = true then ((impl_PortOk.f kj10 t648 t649 t650 t651 t652 t653 t654 t655 t656 t657 t658).bind fun t714 => (laws_FnPorts.j1 kj10 (!t714) t611 t612 t613 t614 t615 t616 t617 t618 t619 t620 t621 t623 t624 t625 t626 t627 t628 t629 t630 t631 t632 t633)) else (laws_FnPorts.j1 kj10 false t611 t612 t613 t614 t615 t616 t617 t618 t619 t620 t621 t623 t624 t625 t626 t627 t628 t629 t630 t631 t632 t633))))) = some true := by first | (rw [if_neg (show ¬ (false = true) by decide)] at H; exact H) | (rw [if_neg (show ¬ (false = true) by decide)] at H)
   clear H
   have H := H1
   clear H1
   have HC91 := aM H
   clear H
   go_upto_region 12 with (fail)
   go_cut [89] (fun v89 wc => ∃ (kq : Nat) (x89_90 : Bool), v89 = .bool x89_90 ∧ Aside0 (laws_FnPorts.j1 kq x89_90 t611 t612 t613 t614 t615 t616 t617 t618 t619 t620 t621 t623 t624 t625 t626 t627 t628 t629 t630 t631 t632 t633 = some true) ∧ Aside0 (kq ≤ kj10) ∧ Aside0 (wc.heap[gb597]? = some (.cells #[.bool t581, .bool t582, .int .i64 t583, .int .i64 t584, .int .i64 t585, .int .i64 t586, .int .i64 t587, .int .i64 t588, .int .i64 t589, .int .i64 t590, .bool t591] 38 (0, 0))) ∧ Aside0 (wc.heap[gb598]? = some (.cells #[.int .i64 t592, .int .i64 t593, .int .i64 t594, .int .i64 t595] 36 (0, 0))) ∧ Aside0 (wc.heap[gb610]? = some (.cells #[.bool t599, .bool t600, .int .i64 t601, .int .i64 t602, .int .i64 t603, .int .i64 t604, .int .i64 t605, .int .i64 t606, .int .i64 t607, .int .i64 t608, .bool t609] 38 (0, 0))) ∧ Aside0 (wc.heap[gb622]? = some (.cells #[.bool t611, .bool t612, .int .i64 t613, .int .i64 t614, .int .i64 t615, .int .i64 t616, .int .i64 t617, .int .i64 t618, .int .i64 t619, .int .i64 t620, .bool t621] 38 (0, 0))) ∧ Aside0 (wc.heap[gb634]? = some (.cells #[.bool t623, .bool t624, .int .i64 t625, .int .i64 t626, .int .i64 t627, .int .i64 t628, .int .i64 t629, .int .i64 t630, .int .i64 t631, .int .i64 t632, .bool t633] 38 (0, 0))) ∧ Aside0 (wc.heap[gb647]? = some (.cells #[.bool t635, .bool t636, .int .i64 t637, .int .i64 t638, .int .i64 t639, .int .i64 t640, .int .i64 t641, .int .i64 t642, .int .i64 t643, .int .i64 t644, .bool t645] 38 (0, 0))) ∧ Aside0 (wc.heap[gb659]? = some (.cells #[.bool t648, .bool t649, .int .i64 t650, .int .i64 t651, .int .i64 t652, .int .i64 t653, .int .i64 t654, .int .i64 t655, .int .i64 t656, .int .i64 t657, .bool t658] 38 (0, 0))) ∧ Aside0 (wc.heap[gb671]? = some (.cells #[.bool t660, .bool t661, .int .i64 t662, .int .i64 t663, .int .i64 t664, .int .i64 t665, .int .i64 t666, .int .i64 t667, .int .i64 t668, .int .i64 t669, .bool t670] 38 (0, 0))) ∧ Aside0 (Below w.heap.size w wc))
   case first =>
    have H := HC91.out
    clear HC91
    obtain ⟨t707, A920, H⟩ := hB H
    have A92 := aM A920
    clear A920
    by_cases c93 : t707 = true
    case neg =>
     replace c93 := Bool.eq_false_iff.mpr c93
     subst c93
     have H1 : ((impl_PortOk.f kj10 t635 t636 t637 t638 t639 t640 t641 t642 t643 t644 t645).bind fun t713 => (if t713 = true then ((impl_PortOk.f kj10 t648 t649 t650 t651 t652 t653 t654 t655 t656 t657 t658).bind fun t714 => (laws_FnPorts.j1 kj10 (!t714) t611 t612 t613 t614 t615 t616 t617 t618 t619 t620 t621 t623 t624 t625 t626 t627 t628 t629 t630 t631 t632 t633)) else (laws_FnPorts.j1 kj10 false t611 t612 t613 t614 t615 t616 t617 t618 t619 t620 t621 t623 t624 t625 t626 t627 t628 t629 t630 t631 t632 t633))) = some true := by first | (rw [if_neg (show ¬ (false = true) by decide)] at H; exact H) | (rw [if_neg (show ¬ (false = true) by decide)] at H)
     clear H
     have H := H1
     clear H1
     obtain ⟨t713, A2540, H⟩ := hB H
     have A254 := aM A2540
     clear A2540
     by_cases c255 : t713 = true
     case neg =>
      replace c255 := Bool.eq_false_iff.mpr c255
      subst c255
      have H1 : (laws_FnPorts.j1 kj10 false t611 t612 t613 t614 t615 t616 t617 t618 t619 t620 t621 t623 t624 t625 t626 t627 t628 t629 t630 t631 t632 t633) = some true := by first | (rw [if_neg (show ¬ (false = true) by decide)] at H; exact H) | (rw [if_neg (show ¬ (false = true) by decide)] at H)
      clear H
      have H := H1
      clear H1
      have H' := aM H
      clear H
      have hnb281 := NB597_598.out
      have hnc281 := NB598_597.out
      have hnb282 := NB597_610.out
      have hnc282 := NB610_597.out
      have hnb283 := NB597_622.out
      have hnc283 := NB622_597.out
      have hnb284 := NB597_634.out
      have hnc284 := NB634_597.out
      have hnb285 := NB597_647.out
      have hnc285 := NB647_597.out
      have hnb286 := NB597_659.out
      have hnc286 := NB659_597.out
      have hnb287 := NB597_671.out
      have hnc287 := NB671_597.out
      have hcz288 := cA11 BK597.out
      go_wp2_with (first | ((with_reducible refine gC (f := 28) rfl ?_); refine gL (some 66) Try.func28 #[.agg #[.bool t581, .bool t582, .int .i64 t583, .int .i64 t584, .int .i64 t585, .int .i64 t586, .int .i64 t587, .int .i64 t588, .int .i64 t589, .int .i64 t590, .bool t591]] ?_; (with_reducible refine (impl_PortOk.calls kj10 t581 t582 t583 t584 t585 t586 t587 t588 t589 t590 t591 false _ A92.out).mono ?_); rintro e w289 ⟨rfl, hb⟩; refine ⟨_, rfl, ?_⟩; replace BK597 := aM (bB (bk BK597.out) hb); replace BK598 := aM (bB (bk BK598.out) hb); replace BK610 := aM (bB (bk BK610.out) hb); replace BK622 := aM (bB (bk BK622.out) hb); replace BK634 := aM (bB (bk BK634.out) hb); replace BK647 := aM (bB (bk BK647.out) hb); replace BK659 := aM (bB (bk BK659.out) hb); replace BK671 := aM (bB (bk BK671.out) hb); replace HB := aM (bS (bl HB.out) hb); (try clear hb); have hnb290 := NB647_598.out; have hnc290 := NB598_647.out; have hnb291 := NB647_610.out; have hnc291 := NB610_647.out; have hnb292 := NB647_622.out; have hnc292 := NB622_647.out; have hnb293 := NB647_634.out; have hnc293 := NB634_647.out; have hnb294 := NB647_659.out; have hnc294 := NB659_647.out; have hnb295 := NB647_671.out; have hnc295 := NB671_647.out; have hcz296 := cA11 BK647.out) | (go_at_call 28; (with_reducible refine (impl_PortOk.calls kj10 t635 t636 t637 t638 t639 t640 t641 t642 t643 t644 t645 false _ A254.out).mono ?_); rintro e w297 ⟨rfl, hb⟩; replace BK597 := aM (bB (bk BK597.out) hb); replace BK598 := aM (bB (bk BK598.out) hb); replace BK610 := aM (bB (bk BK610.out) hb); replace BK622 := aM (bB (bk BK622.out) hb); replace BK634 := aM (bB (bk BK634.out) hb); replace BK647 := aM (bB (bk BK647.out) hb); replace BK659 := aM (bB (bk BK659.out) hb); replace BK671 := aM (bB (bk BK671.out) hb); replace HB := aM (bS (bl HB.out) hb); (try clear hb)))
      go_meet
      case rel => exact ⟨_, (false), xE, H', ⟨by have := HJ10.out; first | omega | exact Nat.le_refl _⟩, ⟨by (with_reducible repeat (first | refine blk_drewN ?_ _ | refine blk_drew ?_ | refine blk_alloc ?_ _)); exact BK597.out⟩, ⟨by (with_reducible repeat (first | refine blk_drewN ?_ _ | refine blk_drew ?_ | refine blk_alloc ?_ _)); exact BK598.out⟩, ⟨by (with_reducible repeat (first | refine blk_drewN ?_ _ | refine blk_drew ?_ | refine blk_alloc ?_ _)); exact BK610.out⟩, ⟨by (with_reducible repeat (first | refine blk_drewN ?_ _ | refine blk_drew ?_ | refine blk_alloc ?_ _)); exact BK622.out⟩, ⟨by (with_reducible repeat (first | refine blk_drewN ?_ _ | refine blk_drew ?_ | refine blk_alloc ?_ _)); exact BK634.out⟩, ⟨by (with_reducible repeat (first | refine blk_drewN ?_ _ | refine blk_drew ?_ | refine blk_alloc ?_ _)); exact BK647.out⟩, ⟨by (with_reducible repeat (first | refine blk_drewN ?_ _ | refine blk_drew ?_ | refine blk_alloc ?_ _)); exact BK659.out⟩, ⟨by (with_reducible repeat (first | refine blk_drewN ?_ _ | refine blk_drew ?_ | refine blk_alloc ?_ _)); exact BK671.out⟩, ⟨bl HB.out⟩⟩
     subst c255
     have H1 : ((impl_PortOk.f kj10 t648 t649 t650 t651 t652 t653 t654 t655 t656 t657 t658).bind fun t714 => (laws_FnPorts.j1 kj10 (!t714) t611 t612 t613 t614 t615 t616 t617 t618 t619 t620 t621 t623 t624 t625 t626 t627 t628 t629 t630 t631 t632 t633)) = some true := by first | (rw [if_pos rfl] at H; exact H) | (rw [if_pos rfl] at H)
     clear H
     have H := H1
     clear H1
     obtain ⟨t714, A2560, H⟩ := hB H
     have A256 := aM A2560
     clear A2560
     have H' := aM H
     clear H
     have hnb257 := NB597_598.out
     have hnc257 := NB598_597.out
     have hnb258 := NB597_610.out
     have hnc258 := NB610_597.out
     have hnb259 := NB597_622.out
     have hnc259 := NB622_597.out
     have hnb260 := NB597_634.out
     have hnc260 := NB634_597.out
     have hnb261 := NB597_647.out
     have hnc261 := NB647_597.out
     have hnb262 := NB597_659.out
     have hnc262 := NB659_597.out
     have hnb263 := NB597_671.out
     have hnc263 := NB671_597.out
     have hcz264 := cA11 BK597.out
     go_wp2_with (first | ((with_reducible refine gC (f := 28) rfl ?_); refine gL (some 66) Try.func28 #[.agg #[.bool t581, .bool t582, .int .i64 t583, .int .i64 t584, .int .i64 t585, .int .i64 t586, .int .i64 t587, .int .i64 t588, .int .i64 t589, .int .i64 t590, .bool t591]] ?_; (with_reducible refine (impl_PortOk.calls kj10 t581 t582 t583 t584 t585 t586 t587 t588 t589 t590 t591 false _ A92.out).mono ?_); rintro e w265 ⟨rfl, hb⟩; refine ⟨_, rfl, ?_⟩; replace BK597 := aM (bB (bk BK597.out) hb); replace BK598 := aM (bB (bk BK598.out) hb); replace BK610 := aM (bB (bk BK610.out) hb); replace BK622 := aM (bB (bk BK622.out) hb); replace BK634 := aM (bB (bk BK634.out) hb); replace BK647 := aM (bB (bk BK647.out) hb); replace BK659 := aM (bB (bk BK659.out) hb); replace BK671 := aM (bB (bk BK671.out) hb); replace HB := aM (bS (bl HB.out) hb); (try clear hb); have hnb266 := NB647_598.out; have hnc266 := NB598_647.out; have hnb267 := NB647_610.out; have hnc267 := NB610_647.out; have hnb268 := NB647_622.out; have hnc268 := NB622_647.out; have hnb269 := NB647_634.out; have hnc269 := NB634_647.out; have hnb270 := NB647_659.out; have hnc270 := NB659_647.out; have hnb271 := NB647_671.out; have hnc271 := NB671_647.out; have hcz272 := cA11 BK647.out) | (go_at_call 28; (with_reducible refine (impl_PortOk.calls kj10 t635 t636 t637 t638 t639 t640 t641 t642 t643 t644 t645 true _ A254.out).mono ?_); rintro e w273 ⟨rfl, hb⟩; replace BK597 := aM (bB (bk BK597.out) hb); replace BK598 := aM (bB (bk BK598.out) hb); replace BK610 := aM (bB (bk BK610.out) hb); replace BK622 := aM (bB (bk BK622.out) hb); replace BK634 := aM (bB (bk BK634.out) hb); replace BK647 := aM (bB (bk BK647.out) hb); replace BK659 := aM (bB (bk BK659.out) hb); replace BK671 := aM (bB (bk BK671.out) hb); replace HB := aM (bS (bl HB.out) hb); (try clear hb); have hnb274 := NB659_598.out; have hnc274 := NB598_659.out; have hnb275 := NB659_610.out; have hnc275 := NB610_659.out; have hnb276 := NB659_622.out; have hnc276 := NB622_659.out; have hnb277 := NB659_634.out; have hnc277 := NB634_659.out; have hnb278 := NB659_671.out; have hnc278 := NB671_659.out; have hcz279 := cA11 BK659.out) | (go_at_call 28; (with_reducible refine (impl_PortOk.calls kj10 t648 t649 t650 t651 t652 t653 t654 t655 t656 t657 t658 t714 _ A256.out).mono ?_); rintro e w280 ⟨rfl, hb⟩; replace BK597 := aM (bB (bk BK597.out) hb); replace BK598 := aM (bB (bk BK598.out) hb); replace BK610 := aM (bB (bk BK610.out) hb); replace BK622 := aM (bB (bk BK622.out) hb); replace BK634 := aM (bB (bk BK634.out) hb); replace BK647 := aM (bB (bk BK647.out) hb); replace BK659 := aM (bB (bk BK659.out) hb); replace BK671 := aM (bB (bk BK671.out) hb); replace HB := aM (bS (bl HB.out) hb); (try clear hb)))
     go_meet
     case rel => exact ⟨_, (!t714), xE, H', ⟨by have := HJ10.out; first | omega | exact Nat.le_refl _⟩, ⟨by (with_reducible repeat (first | refine blk_drewN ?_ _ | refine blk_drew ?_ | refine blk_alloc ?_ _)); exact BK597.out⟩, ⟨by (with_reducible repeat (first | refine blk_drewN ?_ _ | refine blk_drew ?_ | refine blk_alloc ?_ _)); exact BK598.out⟩, ⟨by (with_reducible repeat (first | refine blk_drewN ?_ _ | refine blk_drew ?_ | refine blk_alloc ?_ _)); exact BK610.out⟩, ⟨by (with_reducible repeat (first | refine blk_drewN ?_ _ | refine blk_drew ?_ | refine blk_alloc ?_ _)); exact BK622.out⟩, ⟨by (with_reducible repeat (first | refine blk_drewN ?_ _ | refine blk_drew ?_ | refine blk_alloc ?_ _)); exact BK634.out⟩, ⟨by (with_reducible repeat (first | refine blk_drewN ?_ _ | refine blk_drew ?_ | refine blk_alloc ?_ _)); exact BK647.out⟩, ⟨by (with_reducible repeat (first | refine blk_drewN ?_ _ | refine blk_drew ?_ | refine blk_alloc ?_ _)); exact BK659.out⟩, ⟨by (with_reducible repeat (first | refine blk_drewN ?_ _ | refine blk_drew ?_ | refine blk_alloc ?_ _)); exact BK671.out⟩, ⟨bl HB.out⟩⟩
    subst c93
    have H1 : ((impl_PortOk.f kj10 t599 t600 t601 t602 t603 t604 t605 t606 t607 t608 t609).bind fun t708 => (if t708 = true then (if t582 = true then (if t600 = true then ((impl_PortOk.f kj10 t635 t636 t637 t638 t639 t640 t641 t642 t643 t644 t645).bind fun t709 => (if t709 = true then ((impl_PortOk.f kj10 t648 t649 t650 t651 t652 t653 t654 t655 t656 t657 t658).bind fun t710 => (laws_FnPorts.j1 kj10 (!t710) t611 t612 t613 t614 t615 t616 t617 t618 t619 t620 t621 t623 t624 t625 t626 t627 t628 t629 t630 t631 t632 t633)) else (laws_FnPorts.j1 kj10 false t611 t612 t613 t614 t615 t616 t617 t618 t619 t620 t621 t623 t624 t625 t626 t627 t628 t629 t630 t631 t632 t633))) else (laws_FnPorts.j1 kj10 true t611 t612 t613 t614 t615 t616 t617 t618 t619 t620 t621 t623 t624 t625 t626 t627 t628 t629 t630 t631 t632 t633)) else ((impl_PortOk.f kj10 t635 t636 t637 t638 t639 t640 t641 t642 t643 t644 t645).bind fun t711 => (if t711 = true then ((impl_PortOk.f kj10 t648 t649 t650 t651 t652 t653 t654 t655 t656 t657 t658).bind fun t712 => (laws_FnPorts.j1 kj10 (!t712) t611 t612 t613 t614 t615 t616 t617 t618 t619 t620 t621 t623 t624 t625 t626 t627 t628 t629 t630 t631 t632 t633)) else (laws_FnPorts.j1 kj10 false t611 t612 t613 t614 t615 t616 t617 t618 t619 t620 t621 t623 t624 t625 t626 t627 t628 t629 t630 t631 t632 t633)))) else (laws_FnPorts.j1 kj10 true t611 t612 t613 t614 t615 t616 t617 t618 t619 t620 t621 t623 t624 t625 t626 t627 t628 t629 t630 t631 t632 t633))) = some true := by first | (rw [if_pos rfl] at H; exact H) | (rw [if_pos rfl] at H)
    clear H
    have H := H1
    clear H1
    obtain ⟨t708, A940, H⟩ := hB H
    have A94 := aM A940
    clear A940
    by_cases c95 : t708 = true
    case neg =>
     replace c95 := Bool.eq_false_iff.mpr c95
     subst c95
     have H1 : (laws_FnPorts.j1 kj10 true t611 t612 t613 t614 t615 t616 t617 t618 t619 t620 t621 t623 t624 t625 t626 t627 t628 t629 t630 t631 t632 t633) = some true := by first | (rw [if_neg (show ¬ (false = true) by decide)] at H; exact H) | (rw [if_neg (show ¬ (false = true) by decide)] at H)
     clear H
     have H := H1
     clear H1
     exact absurd H (laws_FnPorts.j1_no _ _ _ _ _ _ _ _ _ _ _ _ _ _ _ _ _ _ _ _ _ _ _)
    subst c95
    have H1 : (if t582 = true then (if t600 = true then ((impl_PortOk.f kj10 t635 t636 t637 t638 t639 t640 t641 t642 t643 t644 t645).bind fun t709 => (if t709 = true then ((impl_PortOk.f kj10 t648 t649 t650 t651 t652 t653 t654 t655 t656 t657 t658).bind fun t710 => (laws_FnPorts.j1 kj10 (!t710) t611 t612 t613 t614 t615 t616 t617 t618 t619 t620 t621 t623 t624 t625 t626 t627 t628 t629 t630 t631 t632 t633)) else (laws_FnPorts.j1 kj10 false t611 t612 t613 t614 t615 t616 t617 t618 t619 t620 t621 t623 t624 t625 t626 t627 t628 t629 t630 t631 t632 t633))) else (laws_FnPorts.j1 kj10 true t611 t612 t613 t614 t615 t616 t617 t618 t619 t620 t621 t623 t624 t625 t626 t627 t628 t629 t630 t631 t632 t633)) else ((impl_PortOk.f kj10 t635 t636 t637 t638 t639 t640 t641 t642 t643 t644 t645).bind fun t711 => (if t711 = true then ((impl_PortOk.f kj10 t648 t649 t650 t651 t652 t653 t654 t655 t656 t657 t658).bind fun t712 => (laws_FnPorts.j1 kj10 (!t712) t611 t612 t613 t614 t615 t616 t617 t618 t619 t620 t621 t623 t624 t625 t626 t627 t628 t629 t630 t631 t632 t633)) else (laws_FnPorts.j1 kj10 false t611 t612 t613 t614 t615 t616 t617 t618 t619 t620 t621 t623 t624 t625 t626 t627 t628 t629 t630 t631 t632 t633)))) = some true := by first | (rw [if_pos rfl] at H; exact H) | (rw [if_pos rfl] at H)
    clear H
    have H := H1
    clear H1
    by_cases c96 : t582 = true
    case neg =>
     replace c96 := Bool.eq_false_iff.mpr c96
     subst c96
     have H1 : ((impl_PortOk.f kj10 t635 t636 t637 t638 t639 t640 t641 t642 t643 t644 t645).bind fun t711 => (if t711 = true then ((impl_PortOk.f kj10 t648 t649 t650 t651 t652 t653 t654 t655 t656 t657 t658).bind fun t712 => (laws_FnPorts.j1 kj10 (!t712) t611 t612 t613 t614 t615 t616 t617 t618 t619 t620 t621 t623 t624 t625 t626 t627 t628 t629 t630 t631 t632 t633)) else (laws_FnPorts.j1 kj10 false t611 t612 t613 t614 t615 t616 t617 t618 t619 t620 t621 t623 t624 t625 t626 t627 t628 t629 t630 t631 t632 t633))) = some true := by first | (rw [if_neg (show ¬ (false = true) by decide)] at H; exact H) | (rw [if_neg (show ¬ (false = true) by decide)] at H)
     clear H
     have H := H1
     clear H1
     obtain ⟨t711, A1780, H⟩ := hB H
     have A178 := aM A1780
     clear A1780
     by_cases c179 : t711 = true
     case neg =>
      replace c179 := Bool.eq_false_iff.mpr c179
      subst c179
      have H1 : (laws_FnPorts.j1 kj10 false t611 t612 t613 t614 t615 t616 t617 t618 t619 t620 t621 t623 t624 t625 t626 t627 t628 t629 t630 t631 t632 t633) = some true := by first | (rw [if_neg (show ¬ (false = true) by decide)] at H; exact H) | (rw [if_neg (show ¬ (false = true) by decide)] at H)
      clear H
      have H := H1
      clear H1
      have H' := aM H
      clear H
      have hnb212 := NB597_598.out
      have hnc212 := NB598_597.out
      have hnb213 := NB597_610.out
      have hnc213 := NB610_597.out
      have hnb214 := NB597_622.out
      have hnc214 := NB622_597.out
      have hnb215 := NB597_634.out
      have hnc215 := NB634_597.out
      have hnb216 := NB597_647.out
      have hnc216 := NB647_597.out
      have hnb217 := NB597_659.out
      have hnc217 := NB659_597.out
      have hnb218 := NB597_671.out
      have hnc218 := NB671_597.out
      have hcz219 := cA11 BK597.out
      go_wp2_with (first | ((with_reducible refine gC (f := 28) rfl ?_); refine gL (some 66) Try.func28 #[.agg #[.bool t581, .bool false, .int .i64 t583, .int .i64 t584, .int .i64 t585, .int .i64 t586, .int .i64 t587, .int .i64 t588, .int .i64 t589, .int .i64 t590, .bool t591]] ?_; (with_reducible refine (impl_PortOk.calls kj10 t581 false t583 t584 t585 t586 t587 t588 t589 t590 t591 true _ A92.out).mono ?_); rintro e w220 ⟨rfl, hb⟩; refine ⟨_, rfl, ?_⟩; replace BK597 := aM (bB (bk BK597.out) hb); replace BK598 := aM (bB (bk BK598.out) hb); replace BK610 := aM (bB (bk BK610.out) hb); replace BK622 := aM (bB (bk BK622.out) hb); replace BK634 := aM (bB (bk BK634.out) hb); replace BK647 := aM (bB (bk BK647.out) hb); replace BK659 := aM (bB (bk BK659.out) hb); replace BK671 := aM (bB (bk BK671.out) hb); replace HB := aM (bS (bl HB.out) hb); (try clear hb); have hnb221 := NB610_598.out; have hnc221 := NB598_610.out; have hnb222 := NB610_622.out; have hnc222 := NB622_610.out; have hnb223 := NB610_634.out; have hnc223 := NB634_610.out; have hnb224 := NB610_647.out; have hnc224 := NB647_610.out; have hnb225 := NB610_659.out; have hnc225 := NB659_610.out; have hnb226 := NB610_671.out; have hnc226 := NB671_610.out; have hcz227 := cA11 BK610.out) | (go_at_call 28; (with_reducible refine (impl_PortOk.calls kj10 t599 t600 t601 t602 t603 t604 t605 t606 t607 t608 t609 true _ A94.out).mono ?_); rintro e w228 ⟨rfl, hb⟩; replace BK597 := aM (bB (bk BK597.out) hb); replace BK598 := aM (bB (bk BK598.out) hb); replace BK610 := aM (bB (bk BK610.out) hb); replace BK622 := aM (bB (bk BK622.out) hb); replace BK634 := aM (bB (bk BK634.out) hb); replace BK647 := aM (bB (bk BK647.out) hb); replace BK659 := aM (bB (bk BK659.out) hb); replace BK671 := aM (bB (bk BK671.out) hb); replace HB := aM (bS (bl HB.out) hb); (try clear hb); have hcz229 := cA11 BK597.out; have hnb230 := NB647_598.out; have hnc230 := NB598_647.out; have hnb231 := NB647_622.out; have hnc231 := NB622_647.out; have hnb232 := NB647_634.out; have hnc232 := NB634_647.out; have hnb233 := NB647_659.out; have hnc233 := NB659_647.out; have hnb234 := NB647_671.out; have hnc234 := NB671_647.out; have hcz235 := cA11 BK647.out) | (go_at_call 28; (with_reducible refine (impl_PortOk.calls kj10 t635 t636 t637 t638 t639 t640 t641 t642 t643 t644 t645 false _ A178.out).mono ?_); rintro e w236 ⟨rfl, hb⟩; replace BK597 := aM (bB (bk BK597.out) hb); replace BK598 := aM (bB (bk BK598.out) hb); replace BK610 := aM (bB (bk BK610.out) hb); replace BK622 := aM (bB (bk BK622.out) hb); replace BK634 := aM (bB (bk BK634.out) hb); replace BK647 := aM (bB (bk BK647.out) hb); replace BK659 := aM (bB (bk BK659.out) hb); replace BK671 := aM (bB (bk BK671.out) hb); replace HB := aM (bS (bl HB.out) hb); (try clear hb)))
      go_meet
      case rel => exact ⟨_, (false), xE, H', ⟨by have := HJ10.out; first | omega | exact Nat.le_refl _⟩, ⟨by (with_reducible repeat (first | refine blk_drewN ?_ _ | refine blk_drew ?_ | refine blk_alloc ?_ _)); exact BK597.out⟩, ⟨by (with_reducible repeat (first | refine blk_drewN ?_ _ | refine blk_drew ?_ | refine blk_alloc ?_ _)); exact BK598.out⟩, ⟨by (with_reducible repeat (first | refine blk_drewN ?_ _ | refine blk_drew ?_ | refine blk_alloc ?_ _)); exact BK610.out⟩, ⟨by (with_reducible repeat (first | refine blk_drewN ?_ _ | refine blk_drew ?_ | refine blk_alloc ?_ _)); exact BK622.out⟩, ⟨by (with_reducible repeat (first | refine blk_drewN ?_ _ | refine blk_drew ?_ | refine blk_alloc ?_ _)); exact BK634.out⟩, ⟨by (with_reducible repeat (first | refine blk_drewN ?_ _ | refine blk_drew ?_ | refine blk_alloc ?_ _)); exact BK647.out⟩, ⟨by (with_reducible repeat (first | refine blk_drewN ?_ _ | refine blk_drew ?_ | refine blk_alloc ?_ _)); exact BK659.out⟩, ⟨by (with_reducible repeat (first | refine blk_drewN ?_ _ | refine blk_drew ?_ | refine blk_alloc ?_ _)); exact BK671.out⟩, ⟨bl HB.out⟩⟩
     subst c179
     have H1 : ((impl_PortOk.f kj10 t648 t649 t650 t651 t652 t653 t654 t655 t656 t657 t658).bind fun t712 => (laws_FnPorts.j1 kj10 (!t712) t611 t612 t613 t614 t615 t616 t617 t618 t619 t620 t621 t623 t624 t625 t626 t627 t628 t629 t630 t631 t632 t633)) = some true := by first | (rw [if_pos rfl] at H; exact H) | (rw [if_pos rfl] at H)
     clear H
     have H := H1
     clear H1
     obtain ⟨t712, A1800, H⟩ := hB H
     have A180 := aM A1800
     clear A1800
     have H' := aM H
     clear H
     have hnb181 := NB597_598.out
     have hnc181 := NB598_597.out
     have hnb182 := NB597_610.out
     have hnc182 := NB610_597.out
     have hnb183 := NB597_622.out
     have hnc183 := NB622_597.out
     have hnb184 := NB597_634.out
     have hnc184 := NB634_597.out
     have hnb185 := NB597_647.out
     have hnc185 := NB647_597.out
     have hnb186 := NB597_659.out
     have hnc186 := NB659_597.out
     have hnb187 := NB597_671.out
     have hnc187 := NB671_597.out
     have hcz188 := cA11 BK597.out
     go_wp2_with (first | ((with_reducible refine gC (f := 28) rfl ?_); refine gL (some 66) Try.func28 #[.agg #[.bool t581, .bool false, .int .i64 t583, .int .i64 t584, .int .i64 t585, .int .i64 t586, .int .i64 t587, .int .i64 t588, .int .i64 t589, .int .i64 t590, .bool t591]] ?_; (with_reducible refine (impl_PortOk.calls kj10 t581 false t583 t584 t585 t586 t587 t588 t589 t590 t591 true _ A92.out).mono ?_); rintro e w189 ⟨rfl, hb⟩; refine ⟨_, rfl, ?_⟩; replace BK597 := aM (bB (bk BK597.out) hb); replace BK598 := aM (bB (bk BK598.out) hb); replace BK610 := aM (bB (bk BK610.out) hb); replace BK622 := aM (bB (bk BK622.out) hb); replace BK634 := aM (bB (bk BK634.out) hb); replace BK647 := aM (bB (bk BK647.out) hb); replace BK659 := aM (bB (bk BK659.out) hb); replace BK671 := aM (bB (bk BK671.out) hb); replace HB := aM (bS (bl HB.out) hb); (try clear hb); have hnb190 := NB610_598.out; have hnc190 := NB598_610.out; have hnb191 := NB610_622.out; have hnc191 := NB622_610.out; have hnb192 := NB610_634.out; have hnc192 := NB634_610.out; have hnb193 := NB610_647.out; have hnc193 := NB647_610.out; have hnb194 := NB610_659.out; have hnc194 := NB659_610.out; have hnb195 := NB610_671.out; have hnc195 := NB671_610.out; have hcz196 := cA11 BK610.out) | (go_at_call 28; (with_reducible refine (impl_PortOk.calls kj10 t599 t600 t601 t602 t603 t604 t605 t606 t607 t608 t609 true _ A94.out).mono ?_); rintro e w197 ⟨rfl, hb⟩; replace BK597 := aM (bB (bk BK597.out) hb); replace BK598 := aM (bB (bk BK598.out) hb); replace BK610 := aM (bB (bk BK610.out) hb); replace BK622 := aM (bB (bk BK622.out) hb); replace BK634 := aM (bB (bk BK634.out) hb); replace BK647 := aM (bB (bk BK647.out) hb); replace BK659 := aM (bB (bk BK659.out) hb); replace BK671 := aM (bB (bk BK671.out) hb); replace HB := aM (bS (bl HB.out) hb); (try clear hb); have hcz198 := cA11 BK597.out; have hnb199 := NB647_598.out; have hnc199 := NB598_647.out; have hnb200 := NB647_622.out; have hnc200 := NB622_647.out; have hnb201 := NB647_634.out; have hnc201 := NB634_647.out; have hnb202 := NB647_659.out; have hnc202 := NB659_647.out; have hnb203 := NB647_671.out; have hnc203 := NB671_647.out; have hcz204 := cA11 BK647.out) | (go_at_call 28; (with_reducible refine (impl_PortOk.calls kj10 t635 t636 t637 t638 t639 t640 t641 t642 t643 t644 t645 true _ A178.out).mono ?_); rintro e w205 ⟨rfl, hb⟩; replace BK597 := aM (bB (bk BK597.out) hb); replace BK598 := aM (bB (bk BK598.out) hb); replace BK610 := aM (bB (bk BK610.out) hb); replace BK622 := aM (bB (bk BK622.out) hb); replace BK634 := aM (bB (bk BK634.out) hb); replace BK647 := aM (bB (bk BK647.out) hb); replace BK659 := aM (bB (bk BK659.out) hb); replace BK671 := aM (bB (bk BK671.out) hb); replace HB := aM (bS (bl HB.out) hb); (try clear hb); have hnb206 := NB659_598.out; have hnc206 := NB598_659.out; have hnb207 := NB659_622.out; have hnc207 := NB622_659.out; have hnb208 := NB659_634.out; have hnc208 := NB634_659.out; have hnb209 := NB659_671.out; have hnc209 := NB671_659.out; have hcz210 := cA11 BK659.out) | (go_at_call 28; (with_reducible refine (impl_PortOk.calls kj10 t648 t649 t650 t651 t652 t653 t654 t655 t656 t657 t658 t712 _ A180.out).mono ?_); rintro e w211 ⟨rfl, hb⟩; replace BK597 := aM (bB (bk BK597.out) hb); replace BK598 := aM (bB (bk BK598.out) hb); replace BK610 := aM (bB (bk BK610.out) hb); replace BK622 := aM (bB (bk BK622.out) hb); replace BK634 := aM (bB (bk BK634.out) hb); replace BK647 := aM (bB (bk BK647.out) hb); replace BK659 := aM (bB (bk BK659.out) hb); replace BK671 := aM (bB (bk BK671.out) hb); replace HB := aM (bS (bl HB.out) hb); (try clear hb)))
     go_meet
     case rel => exact ⟨_, (!t712), xE, H', ⟨by have := HJ10.out; first | omega | exact Nat.le_refl _⟩, ⟨by (with_reducible repeat (first | refine blk_drewN ?_ _ | refine blk_drew ?_ | refine blk_alloc ?_ _)); exact BK597.out⟩, ⟨by (with_reducible repeat (first | refine blk_drewN ?_ _ | refine blk_drew ?_ | refine blk_alloc ?_ _)); exact BK598.out⟩, ⟨by (with_reducible repeat (first | refine blk_drewN ?_ _ | refine blk_drew ?_ | refine blk_alloc ?_ _)); exact BK610.out⟩, ⟨by (with_reducible repeat (first | refine blk_drewN ?_ _ | refine blk_drew ?_ | refine blk_alloc ?_ _)); exact BK622.out⟩, ⟨by (with_reducible repeat (first | refine blk_drewN ?_ _ | refine blk_drew ?_ | refine blk_alloc ?_ _)); exact BK634.out⟩, ⟨by (with_reducible repeat (first | refine blk_drewN ?_ _ | refine blk_drew ?_ | refine blk_alloc ?_ _)); exact BK647.out⟩, ⟨by (with_reducible repeat (first | refine blk_drewN ?_ _ | refine blk_drew ?_ | refine blk_alloc ?_ _)); exact BK659.out⟩, ⟨by (with_reducible repeat (first | refine blk_drewN ?_ _ | refine blk_drew ?_ | refine blk_alloc ?_ _)); exact BK671.out⟩, ⟨bl HB.out⟩⟩
    subst c96
    have H1 : (if t600 = true then ((impl_PortOk.f kj10 t635 t636 t637 t638 t639 t640 t641 t642 t643 t644 t645).bind fun t709 => (if t709 = true then ((impl_PortOk.f kj10 t648 t649 t650 t651 t652 t653 t654 t655 t656 t657 t658).bind fun t710 => (laws_FnPorts.j1 kj10 (!t710) t611 t612 t613 t614 t615 t616 t617 t618 t619 t620 t621 t623 t624 t625 t626 t627 t628 t629 t630 t631 t632 t633)) else (laws_FnPorts.j1 kj10 false t611 t612 t613 t614 t615 t616 t617 t618 t619 t620 t621 t623 t624 t625 t626 t627 t628 t629 t630 t631 t632 t633))) else (laws_FnPorts.j1 kj10 true t611 t612 t613 t614 t615 t616 t617 t618 t619 t620 t621 t623 t624 t625 t626 t627 t628 t629 t630 t631 t632 t633)) = some true := by first | (rw [if_pos rfl] at H; exact H) | (rw [if_pos rfl] at H)
    clear H
    have H := H1
    clear H1
    by_cases c97 : t600 = true
    case neg =>
     replace c97 := Bool.eq_false_iff.mpr c97
     subst c97
     have H1 : (laws_FnPorts.j1 kj10 true t611 t612 t613 t614 t615 t616 t617 t618 t619 t620 t621 t623 t624 t625 t626 t627 t628 t629 t630 t631 t632 t633) = some true := by first | (rw [if_neg (show ¬ (false = true) by decide)] at H; exact H) | (rw [if_neg (show ¬ (false = true) by decide)] at H)
     clear H
     have H := H1
     clear H1
     exact absurd H (laws_FnPorts.j1_no _ _ _ _ _ _ _ _ _ _ _ _ _ _ _ _ _ _ _ _ _ _ _)
    subst c97
    have H1 : ((impl_PortOk.f kj10 t635 t636 t637 t638 t639 t640 t641 t642 t643 t644 t645).bind fun t709 => (if t709 = true then ((impl_PortOk.f kj10 t648 t649 t650 t651 t652 t653 t654 t655 t656 t657 t658).bind fun t710 => (laws_FnPorts.j1 kj10 (!t710) t611 t612 t613 t614 t615 t616 t617 t618 t619 t620 t621 t623 t624 t625 t626 t627 t628 t629 t630 t631 t632 t633)) else (laws_FnPorts.j1 kj10 false t611 t612 t613 t614 t615 t616 t617 t618 t619 t620 t621 t623 t624 t625 t626 t627 t628 t629 t630 t631 t632 t633))) = some true := by first | (rw [if_pos rfl] at H; exact H) | (rw [if_pos rfl] at H)
    clear H
    have H := H1
    clear H1
    obtain ⟨t709, A980, H⟩ := hB H
    have A98 := aM A980
    clear A980
    by_cases c99 : t709 = true
    case neg =>
     replace c99 := Bool.eq_false_iff.mpr c99
     subst c99
     have H1 : (laws_FnPorts.j1 kj10 false t611 t612 t613 t614 t615 t616 t617 t618 t619 t620 t621 t623 t624 t625 t626 t627 t628 t629 t630 t631 t632 t633) = some true := by first | (rw [if_neg (show ¬ (false = true) by decide)] at H; exact H) | (rw [if_neg (show ¬ (false = true) by decide)] at H)
     clear H
     have H := H1
     clear H1
     have H' := aM H
     clear H
     have hnb133 := NB597_598.out
     have hnc133 := NB598_597.out
     have hnb134 := NB597_610.out
     have hnc134 := NB610_597.out
     have hnb135 := NB597_622.out
     have hnc135 := NB622_597.out
     have hnb136 := NB597_634.out
     have hnc136 := NB634_597.out
     have hnb137 := NB597_647.out
     have hnc137 := NB647_597.out
     have hnb138 := NB597_659.out
     have hnc138 := NB659_597.out
     have hnb139 := NB597_671.out
     have hnc139 := NB671_597.out
     have hcz140 := cA11 BK597.out
     go_wp2_with (first | ((with_reducible refine gC (f := 28) rfl ?_); refine gL (some 66) Try.func28 #[.agg #[.bool t581, .bool true, .int .i64 t583, .int .i64 t584, .int .i64 t585, .int .i64 t586, .int .i64 t587, .int .i64 t588, .int .i64 t589, .int .i64 t590, .bool t591]] ?_; (with_reducible refine (impl_PortOk.calls kj10 t581 true t583 t584 t585 t586 t587 t588 t589 t590 t591 true _ A92.out).mono ?_); rintro e w141 ⟨rfl, hb⟩; refine ⟨_, rfl, ?_⟩; replace BK597 := aM (bB (bk BK597.out) hb); replace BK598 := aM (bB (bk BK598.out) hb); replace BK610 := aM (bB (bk BK610.out) hb); replace BK622 := aM (bB (bk BK622.out) hb); replace BK634 := aM (bB (bk BK634.out) hb); replace BK647 := aM (bB (bk BK647.out) hb); replace BK659 := aM (bB (bk BK659.out) hb); replace BK671 := aM (bB (bk BK671.out) hb); replace HB := aM (bS (bl HB.out) hb); (try clear hb); have hnb142 := NB610_598.out; have hnc142 := NB598_610.out; have hnb143 := NB610_622.out; have hnc143 := NB622_610.out; have hnb144 := NB610_634.out; have hnc144 := NB634_610.out; have hnb145 := NB610_647.out; have hnc145 := NB647_610.out; have hnb146 := NB610_659.out; have hnc146 := NB659_610.out; have hnb147 := NB610_671.out; have hnc147 := NB671_610.out; have hcz148 := cA11 BK610.out) | (go_at_call 28; (with_reducible refine (impl_PortOk.calls kj10 t599 true t601 t602 t603 t604 t605 t606 t607 t608 t609 true _ A94.out).mono ?_); rintro e w149 ⟨rfl, hb⟩; replace BK597 := aM (bB (bk BK597.out) hb); replace BK598 := aM (bB (bk BK598.out) hb); replace BK610 := aM (bB (bk BK610.out) hb); replace BK622 := aM (bB (bk BK622.out) hb); replace BK634 := aM (bB (bk BK634.out) hb); replace BK647 := aM (bB (bk BK647.out) hb); replace BK659 := aM (bB (bk BK659.out) hb); replace BK671 := aM (bB (bk BK671.out) hb); replace HB := aM (bS (bl HB.out) hb); (try clear hb); have hcz150 := cA11 BK597.out; have hcz151 := cA11 BK610.out; have hnb152 := NB647_598.out; have hnc152 := NB598_647.out; have hnb153 := NB647_622.out; have hnc153 := NB622_647.out; have hnb154 := NB647_634.out; have hnc154 := NB634_647.out; have hnb155 := NB647_659.out; have hnc155 := NB659_647.out; have hnb156 := NB647_671.out; have hnc156 := NB671_647.out; have hcz157 := cA11 BK647.out) | (go_at_call 28; (with_reducible refine (impl_PortOk.calls kj10 t635 t636 t637 t638 t639 t640 t641 t642 t643 t644 t645 false _ A98.out).mono ?_); rintro e w158 ⟨rfl, hb⟩; replace BK597 := aM (bB (bk BK597.out) hb); replace BK598 := aM (bB (bk BK598.out) hb); replace BK610 := aM (bB (bk BK610.out) hb); replace BK622 := aM (bB (bk BK622.out) hb); replace BK634 := aM (bB (bk BK634.out) hb); replace BK647 := aM (bB (bk BK647.out) hb); replace BK659 := aM (bB (bk BK659.out) hb); replace BK671 := aM (bB (bk BK671.out) hb); replace HB := aM (bS (bl HB.out) hb); (try clear hb)))
     go_meet
     case rel => exact ⟨_, (false), xE, H', ⟨by have := HJ10.out; first | omega | exact Nat.le_refl _⟩, ⟨by (with_reducible repeat (first | refine blk_drewN ?_ _ | refine blk_drew ?_ | refine blk_alloc ?_ _)); exact BK597.out⟩, ⟨by (with_reducible repeat (first | refine blk_drewN ?_ _ | refine blk_drew ?_ | refine blk_alloc ?_ _)); exact BK598.out⟩, ⟨by (with_reducible repeat (first | refine blk_drewN ?_ _ | refine blk_drew ?_ | refine blk_alloc ?_ _)); exact BK610.out⟩, ⟨by (with_reducible repeat (first | refine blk_drewN ?_ _ | refine blk_drew ?_ | refine blk_alloc ?_ _)); exact BK622.out⟩, ⟨by (with_reducible repeat (first | refine blk_drewN ?_ _ | refine blk_drew ?_ | refine blk_alloc ?_ _)); exact BK634.out⟩, ⟨by (with_reducible repeat (first | refine blk_drewN ?_ _ | refine blk_drew ?_ | refine blk_alloc ?_ _)); exact BK647.out⟩, ⟨by (with_reducible repeat (first | refine blk_drewN ?_ _ | refine blk_drew ?_ | refine blk_alloc ?_ _)); exact BK659.out⟩, ⟨by (with_reducible repeat (first | refine blk_drewN ?_ _ | refine blk_drew ?_ | refine blk_alloc ?_ _)); exact BK671.out⟩, ⟨bl HB.out⟩⟩
    subst c99
    have H1 : ((impl_PortOk.f kj10 t648 t649 t650 t651 t652 t653 t654 t655 t656 t657 t658).bind fun t710 => (laws_FnPorts.j1 kj10 (!t710) t611 t612 t613 t614 t615 t616 t617 t618 t619 t620 t621 t623 t624 t625 t626 t627 t628 t629 t630 t631 t632 t633)) = some true := by first | (rw [if_pos rfl] at H; exact H) | (rw [if_pos rfl] at H)
    clear H
    have H := H1
    clear H1
    obtain ⟨t710, A1000, H⟩ := hB H
    have A100 := aM A1000
    clear A1000
    have H' := aM H
    clear H
    have hnb101 := NB597_598.out
    have hnc101 := NB598_597.out
    have hnb102 := NB597_610.out
    have hnc102 := NB610_597.out
    have hnb103 := NB597_622.out
    have hnc103 := NB622_597.out
    have hnb104 := NB597_634.out
    have hnc104 := NB634_597.out
    have hnb105 := NB597_647.out
    have hnc105 := NB647_597.out
    have hnb106 := NB597_659.out
    have hnc106 := NB659_597.out
    have hnb107 := NB597_671.out
    have hnc107 := NB671_597.out
    have hcz108 := cA11 BK597.out
    go_wp2_with (first | ((with_reducible refine gC (f := 28) rfl ?_); refine gL (some 66) Try.func28 #[.agg #[.bool t581, .bool true, .int .i64 t583, .int .i64 t584, .int .i64 t585, .int .i64 t586, .int .i64 t587, .int .i64 t588, .int .i64 t589, .int .i64 t590, .bool t591]] ?_; (with_reducible refine (impl_PortOk.calls kj10 t581 true t583 t584 t585 t586 t587 t588 t589 t590 t591 true _ A92.out).mono ?_); rintro e w109 ⟨rfl, hb⟩; refine ⟨_, rfl, ?_⟩; replace BK597 := aM (bB (bk BK597.out) hb); replace BK598 := aM (bB (bk BK598.out) hb); replace BK610 := aM (bB (bk BK610.out) hb); replace BK622 := aM (bB (bk BK622.out) hb); replace BK634 := aM (bB (bk BK634.out) hb); replace BK647 := aM (bB (bk BK647.out) hb); replace BK659 := aM (bB (bk BK659.out) hb); replace BK671 := aM (bB (bk BK671.out) hb); replace HB := aM (bS (bl HB.out) hb); (try clear hb); have hnb110 := NB610_598.out; have hnc110 := NB598_610.out; have hnb111 := NB610_622.out; have hnc111 := NB622_610.out; have hnb112 := NB610_634.out; have hnc112 := NB634_610.out; have hnb113 := NB610_647.out; have hnc113 := NB647_610.out; have hnb114 := NB610_659.out; have hnc114 := NB659_610.out; have hnb115 := NB610_671.out; have hnc115 := NB671_610.out; have hcz116 := cA11 BK610.out) | (go_at_call 28; (with_reducible refine (impl_PortOk.calls kj10 t599 true t601 t602 t603 t604 t605 t606 t607 t608 t609 true _ A94.out).mono ?_); rintro e w117 ⟨rfl, hb⟩; replace BK597 := aM (bB (bk BK597.out) hb); replace BK598 := aM (bB (bk BK598.out) hb); replace BK610 := aM (bB (bk BK610.out) hb); replace BK622 := aM (bB (bk BK622.out) hb); replace BK634 := aM (bB (bk BK634.out) hb); replace BK647 := aM (bB (bk BK647.out) hb); replace BK659 := aM (bB (bk BK659.out) hb); replace BK671 := aM (bB (bk BK671.out) hb); replace HB := aM (bS (bl HB.out) hb); (try clear hb); have hcz118 := cA11 BK597.out; have hcz119 := cA11 BK610.out; have hnb120 := NB647_598.out; have hnc120 := NB598_647.out; have hnb121 := NB647_622.out; have hnc121 := NB622_647.out; have hnb122 := NB647_634.out; have hnc122 := NB634_647.out; have hnb123 := NB647_659.out; have hnc123 := NB659_647.out; have hnb124 := NB647_671.out; have hnc124 := NB671_647.out; have hcz125 := cA11 BK647.out) | (go_at_call 28; (with_reducible refine (impl_PortOk.calls kj10 t635 t636 t637 t638 t639 t640 t641 t642 t643 t644 t645 true _ A98.out).mono ?_); rintro e w126 ⟨rfl, hb⟩; replace BK597 := aM (bB (bk BK597.out) hb); replace BK598 := aM (bB (bk BK598.out) hb); replace BK610 := aM (bB (bk BK610.out) hb); replace BK622 := aM (bB (bk BK622.out) hb); replace BK634 := aM (bB (bk BK634.out) hb); replace BK647 := aM (bB (bk BK647.out) hb); replace BK659 := aM (bB (bk BK659.out) hb); replace BK671 := aM (bB (bk BK671.out) hb); replace HB := aM (bS (bl HB.out) hb); (try clear hb); have hnb127 := NB659_598.out; have hnc127 := NB598_659.out; have hnb128 := NB659_622.out; have hnc128 := NB622_659.out; have hnb129 := NB659_634.out; have hnc129 := NB634_659.out; have hnb130 := NB659_671.out; have hnc130 := NB671_659.out; have hcz131 := cA11 BK659.out) | (go_at_call 28; (with_reducible refine (impl_PortOk.calls kj10 t648 t649 t650 t651 t652 t653 t654 t655 t656 t657 t658 t710 _ A100.out).mono ?_); rintro e w132 ⟨rfl, hb⟩; replace BK597 := aM (bB (bk BK597.out) hb); replace BK598 := aM (bB (bk BK598.out) hb); replace BK610 := aM (bB (bk BK610.out) hb); replace BK622 := aM (bB (bk BK622.out) hb); replace BK634 := aM (bB (bk BK634.out) hb); replace BK647 := aM (bB (bk BK647.out) hb); replace BK659 := aM (bB (bk BK659.out) hb); replace BK671 := aM (bB (bk BK671.out) hb); replace HB := aM (bS (bl HB.out) hb); (try clear hb)))
    go_meet
    case rel => exact ⟨_, (!t710), xE, H', ⟨by have := HJ10.out; first | omega | exact Nat.le_refl _⟩, ⟨by (with_reducible repeat (first | refine blk_drewN ?_ _ | refine blk_drew ?_ | refine blk_alloc ?_ _)); exact BK597.out⟩, ⟨by (with_reducible repeat (first | refine blk_drewN ?_ _ | refine blk_drew ?_ | refine blk_alloc ?_ _)); exact BK598.out⟩, ⟨by (with_reducible repeat (first | refine blk_drewN ?_ _ | refine blk_drew ?_ | refine blk_alloc ?_ _)); exact BK610.out⟩, ⟨by (with_reducible repeat (first | refine blk_drewN ?_ _ | refine blk_drew ?_ | refine blk_alloc ?_ _)); exact BK622.out⟩, ⟨by (with_reducible repeat (first | refine blk_drewN ?_ _ | refine blk_drew ?_ | refine blk_alloc ?_ _)); exact BK634.out⟩, ⟨by (with_reducible repeat (first | refine blk_drewN ?_ _ | refine blk_drew ?_ | refine blk_alloc ?_ _)); exact BK647.out⟩, ⟨by (with_reducible repeat (first | refine blk_drewN ?_ _ | refine blk_drew ?_ | refine blk_alloc ?_ _)); exact BK659.out⟩, ⟨by (with_reducible repeat (first | refine blk_drewN ?_ _ | refine blk_drew ?_ | refine blk_alloc ?_ _)); exact BK671.out⟩, ⟨bl HB.out⟩⟩
   case rest =>
    clear HC91
    try clear c1
    try clear c2
    try clear p2
    try clear c7
    try clear c9
    try clear c10
    try clear c11
    try clear c12
    try clear c13
    try clear c14
    try clear c15
    try clear c16
    try clear c17
    try clear c18
    try clear c19
    try clear c20
    try clear c21
    try clear c22
    try clear c23
    try clear c24
    try clear c25
    try clear c26
    try clear c27
    try clear c28
    try clear c29
    try clear c75
    try clear c75b0
    try clear c90
    try clear c93
    try clear c95
    try clear c96
    try clear c97
    try clear c99
    try clear c101
    try clear c102
    try clear c103
    try clear c104
    try clear c105
    try clear c106
    try clear c107
    try clear c110
    try clear c111
    try clear c112
    try clear c113
    try clear c114
    try clear c115
    try clear c120
    try clear c121
    try clear c122
    try clear c123
    try clear c124
    try clear c127
    try clear c128
    try clear c129
    try clear c130
    try clear c133
    try clear c134
    try clear c135
    try clear c136
    try clear c137
    try clear c138
    try clear c139
    try clear c142
    try clear c143
    try clear c144
    try clear c145
    try clear c146
    try clear c147
    try clear c152
    try clear c153
    try clear c154
    try clear c155
    try clear c156
    try clear c159
    try clear c160
    try clear c161
    try clear c162
    try clear c163
    try clear c164
    try clear c165
    try clear c168
    try clear c169
    try clear c170
    try clear c171
    try clear c172
    try clear c173
    try clear c179
    try clear c181
    try clear c182
    try clear c183
    try clear c184
    try clear c185
    try clear c186
    try clear c187
    try clear c190
    try clear c191
    try clear c192
    try clear c193
    try clear c194
    try clear c195
    try clear c199
    try clear c200
    try clear c201
    try clear c202
    try clear c203
    try clear c206
    try clear c207
    try clear c208
    try clear c209
    try clear c212
    try clear c213
    try clear c214
    try clear c215
    try clear c216
    try clear c217
    try clear c218
    try clear c221
    try clear c222
    try clear c223
    try clear c224
    try clear c225
    try clear c226
    try clear c230
    try clear c231
    try clear c232
    try clear c233
    try clear c234
    try clear c237
    try clear c238
    try clear c239
    try clear c240
    try clear c241
    try clear c242
    try clear c243
    try clear c246
    try clear c247
    try clear c248
    try clear c249
    try clear c250
    try clear c251
    try clear c255
    try clear c257
    try clear c258
    try clear c259
    try clear c260
    try clear c261
    try clear c262
    try clear c263
    try clear c266
    try clear c267
    try clear c268
    try clear c269
    try clear c270
    try clear c271
    try clear c274
    try clear c275
    try clear c276
    try clear c277
    try clear c278
    try clear c281
    try clear c282
    try clear c283
    try clear c284
    try clear c285
    try clear c286
    try clear c287
    try clear c290
    try clear c291
    try clear c292
    try clear c293
    try clear c294
    try clear c295
    try clear hcz108
    try clear hcz108_1
    try clear hcz108_10
    try clear hcz108_2
    try clear hcz108_3
    try clear hcz108_4
    try clear hcz108_5
    try clear hcz108_6
    try clear hcz108_7
    try clear hcz108_8
    try clear hcz108_9
    try clear hcz116
    try clear hcz118
    try clear hcz119
    try clear hcz125
    try clear hcz131
    try clear hcz140
    try clear hcz140_1
    try clear hcz140_10
    try clear hcz140_2
    try clear hcz140_3
    try clear hcz140_4
    try clear hcz140_5
    try clear hcz140_6
    try clear hcz140_7
    try clear hcz140_8
    try clear hcz140_9
    try clear hcz148
    try clear hcz150
    try clear hcz151
    try clear hcz157
    try clear hcz166_0
    try clear hcz166_1
    try clear hcz166_10
    try clear hcz166_2
    try clear hcz166_3
    try clear hcz166_4
    try clear hcz166_5
    try clear hcz166_6
    try clear hcz166_7
    try clear hcz166_8
    try clear hcz166_9
    try clear hcz174_0
    try clear hcz174_1
    try clear hcz174_10
    try clear hcz174_2
    try clear hcz174_3
    try clear hcz174_4
    try clear hcz174_5
    try clear hcz174_6
    try clear hcz174_7
    try clear hcz174_8
    try clear hcz174_9
    try clear hcz176_0
    try clear hcz176_1
    try clear hcz176_10
    try clear hcz176_2
    try clear hcz176_3
    try clear hcz176_4
    try clear hcz176_5
    try clear hcz176_6
    try clear hcz176_7
    try clear hcz176_8
    try clear hcz176_9
    try clear hcz177_0
    try clear hcz177_1
    try clear hcz177_10
    try clear hcz177_2
    try clear hcz177_3
    try clear hcz177_4
    try clear hcz177_5
    try clear hcz177_6
    try clear hcz177_7
    try clear hcz177_8
    try clear hcz177_9
    try clear hcz188
    try clear hcz188_1
    try clear hcz188_10
    try clear hcz188_2
    try clear hcz188_3
    try clear hcz188_4
    try clear hcz188_5
    try clear hcz188_6
    try clear hcz188_7
    try clear hcz188_8
    try clear hcz188_9
    try clear hcz196
    try clear hcz198
    try clear hcz204
    try clear hcz210
    try clear hcz219
    try clear hcz219_1
    try clear hcz219_10
    try clear hcz219_2
    try clear hcz219_3
    try clear hcz219_4
    try clear hcz219_5
    try clear hcz219_6
    try clear hcz219_7
    try clear hcz219_8
    try clear hcz219_9
    try clear hcz227
    try clear hcz229
    try clear hcz235
    try clear hcz244_0
    try clear hcz244_1
    try clear hcz244_10
    try clear hcz244_2
    try clear hcz244_3
    try clear hcz244_4
    try clear hcz244_5
    try clear hcz244_6
    try clear hcz244_7
    try clear hcz244_8
    try clear hcz244_9
    try clear hcz252_0
    try clear hcz252_1
    try clear hcz252_10
    try clear hcz252_2
    try clear hcz252_3
    try clear hcz252_4
    try clear hcz252_5
    try clear hcz252_6
    try clear hcz252_7
    try clear hcz252_8
    try clear hcz252_9
    try clear hcz264
    try clear hcz264_1
    try clear hcz264_10
    try clear hcz264_2
    try clear hcz264_3
    try clear hcz264_4
    try clear hcz264_5
    try clear hcz264_6
    try clear hcz264_7
    try clear hcz264_8
    try clear hcz264_9
    try clear hcz272
    try clear hcz279
    try clear hcz288
    try clear hcz288_1
    try clear hcz288_10
    try clear hcz288_2
    try clear hcz288_3
    try clear hcz288_4
    try clear hcz288_5
    try clear hcz288_6
    try clear hcz288_7
    try clear hcz288_8
    try clear hcz288_9
    try clear hcz296
    try clear hfz108_0
    try clear hfz108_1
    try clear hfz108_10
    try clear hfz108_2
    try clear hfz108_3
    try clear hfz108_4
    try clear hfz108_5
    try clear hfz108_6
    try clear hfz108_7
    try clear hfz108_8
    try clear hfz108_9
    try clear hfz140_0
    try clear hfz140_1
    try clear hfz140_10
    try clear hfz140_2
    try clear hfz140_3
    try clear hfz140_4
    try clear hfz140_5
    try clear hfz140_6
    try clear hfz140_7
    try clear hfz140_8
    try clear hfz140_9
    try clear hfz166_0
    try clear hfz166_1
    try clear hfz166_10
    try clear hfz166_2
    try clear hfz166_3
    try clear hfz166_4
    try clear hfz166_5
    try clear hfz166_6
    try clear hfz166_7
    try clear hfz166_8
    try clear hfz166_9
    try clear hfz174_0
    try clear hfz174_1
    try clear hfz174_10
    try clear hfz174_2
    try clear hfz174_3
    try clear hfz174_4
    try clear hfz174_5
    try clear hfz174_6
    try clear hfz174_7
    try clear hfz174_8
    try clear hfz174_9
    try clear hfz176_0
    try clear hfz176_1
    try clear hfz176_10
    try clear hfz176_2
    try clear hfz176_3
    try clear hfz176_4
    try clear hfz176_5
    try clear hfz176_6
    try clear hfz176_7
    try clear hfz176_8
    try clear hfz176_9
    try clear hfz177_0
    try clear hfz177_1
    try clear hfz177_10
    try clear hfz177_2
    try clear hfz177_3
    try clear hfz177_4
    try clear hfz177_5
    try clear hfz177_6
    try clear hfz177_7
    try clear hfz177_8
    try clear hfz177_9
    try clear hfz188_0
    try clear hfz188_1
    try clear hfz188_10
    try clear hfz188_2
    try clear hfz188_3
    try clear hfz188_4
    try clear hfz188_5
    try clear hfz188_6
    try clear hfz188_7
    try clear hfz188_8
    try clear hfz188_9
    try clear hfz219_0
    try clear hfz219_1
    try clear hfz219_10
    try clear hfz219_2
    try clear hfz219_3
    try clear hfz219_4
    try clear hfz219_5
    try clear hfz219_6
    try clear hfz219_7
    try clear hfz219_8
    try clear hfz219_9
    try clear hfz244_0
    try clear hfz244_1
    try clear hfz244_10
    try clear hfz244_2
    try clear hfz244_3
    try clear hfz244_4
    try clear hfz244_5
    try clear hfz244_6
    try clear hfz244_7
    try clear hfz244_8
    try clear hfz244_9
    try clear hfz252_0
    try clear hfz252_1
    try clear hfz252_10
    try clear hfz252_2
    try clear hfz252_3
    try clear hfz252_4
    try clear hfz252_5
    try clear hfz252_6
    try clear hfz252_7
    try clear hfz252_8
    try clear hfz252_9
    try clear hfz264_0
    try clear hfz264_1
    try clear hfz264_10
    try clear hfz264_2
    try clear hfz264_3
    try clear hfz264_4
    try clear hfz264_5
    try clear hfz264_6
    try clear hfz264_7
    try clear hfz264_8
    try clear hfz264_9
    try clear hfz288_0
    try clear hfz288_1
    try clear hfz288_10
    try clear hfz288_2
    try clear hfz288_3
    try clear hfz288_4
    try clear hfz288_5
    try clear hfz288_6
    try clear hfz288_7
    try clear hfz288_8
    try clear hfz288_9
    try clear p2
    obtain ⟨kq, x89_90, rfl, HA, HJ90, BK597, BK598, BK610, BK622, BK634, BK647, BK659, BK671, HB⟩ := hcut
    cases kq with
    | zero => exact absurd HA.out (by simp [laws_FnPorts.j1])
    | succ kj90 =>
     have H := HA.out
     clear HA
     simp only [laws_FnPorts.j1] at H
     by_cases c298 : x89_90 = true
     case pos =>
      subst c298
      have H1 : (some false) = some true := by first | (rw [if_pos rfl] at H; exact H) | (rw [if_pos rfl] at H)
      clear H
      have H := H1
      clear H1
      exact absurd (Option.some.inj H) (by decide)
     replace c298 := Bool.eq_false_iff.mpr c298
     subst c298
     have H1 : ((impl_PortOk.f kj90 t611 t612 t613 t614 t615 t616 t617 t618 t619 t620 t621).bind fun t715 => (if t715 = true then (if t630 < t618 then (some true) else (some (t623 == t611 && (t624 == t612 && ((t625 == t613 && (t626 == t614 && (t627 == t615 && (t628 == t616)))) && (t629 == t617 && (t630 == t618 && (t631 == t619 && (t632 == t620 && (t633 == t621)))))))))) else (some true))) = some true := by first | (rw [if_neg (show ¬ (false = true) by decide)] at H; exact H) | (rw [if_neg (show ¬ (false = true) by decide)] at H)
     clear H
     have H := H1
     clear H1
     obtain ⟨t715, A2990, H⟩ := hB H
     have A299 := aM A2990
     clear A2990
     by_cases c300 : t715 = true
     case neg =>
      replace c300 := Bool.eq_false_iff.mpr c300
      subst c300
      have H1 : (some true) = some true := by first | (rw [if_neg (show ¬ (false = true) by decide)] at H; exact H) | (rw [if_neg (show ¬ (false = true) by decide)] at H)
      clear H
      have H := H1
      clear H1 H
      have hnb336 := NB622_597.out
      have hnc336 := NB597_622.out
      have hnb337 := NB622_598.out
      have hnc337 := NB598_622.out
      have hnb338 := NB622_610.out
      have hnc338 := NB610_622.out
      have hnb339 := NB622_634.out
      have hnc339 := NB634_622.out
      have hnb340 := NB622_647.out
      have hnc340 := NB647_622.out
      have hnb341 := NB622_659.out
      have hnc341 := NB659_622.out
      have hnb342 := NB622_671.out
      have hnc342 := NB671_622.out
      have hcz343 := cA11 BK622.out
      go_wp2_with (first | ((with_reducible refine gC (f := 28) rfl ?_); refine gL (some 91) Try.func28 #[.agg #[.bool t611, .bool t612, .int .i64 t613, .int .i64 t614, .int .i64 t615, .int .i64 t616, .int .i64 t617, .int .i64 t618, .int .i64 t619, .int .i64 t620, .bool t621]] ?_; (with_reducible refine (impl_PortOk.calls kj90 t611 t612 t613 t614 t615 t616 t617 t618 t619 t620 t621 false _ A299.out).mono ?_); rintro e w344 ⟨rfl, hb⟩; refine ⟨_, rfl, ?_⟩; replace BK597 := aM (bB (bk BK597.out) hb); replace BK598 := aM (bB (bk BK598.out) hb); replace BK610 := aM (bB (bk BK610.out) hb); replace BK622 := aM (bB (bk BK622.out) hb); replace BK634 := aM (bB (bk BK634.out) hb); replace BK647 := aM (bB (bk BK647.out) hb); replace BK659 := aM (bB (bk BK659.out) hb); replace BK671 := aM (bB (bk BK671.out) hb); replace HB := aM (bS (bl HB.out) hb); (try clear hb)))
      go_ret
      exact ⟨xW, bl HB.out⟩
     subst c300
     have H1 : (if t630 < t618 then (some true) else (some (t623 == t611 && (t624 == t612 && ((t625 == t613 && (t626 == t614 && (t627 == t615 && (t628 == t616)))) && (t629 == t617 && (t630 == t618 && (t631 == t619 && (t632 == t620 && (t633 == t621)))))))))) = some true := by first | (rw [if_pos rfl] at H; exact H) | (rw [if_pos rfl] at H)
     clear H
     have H := H1
     clear H1
     by_cases c301 : t630 < t618
     case pos =>
      rw [if_pos c301] at H
      have c301b0 : decide (t630 < t618) = true := decide_eq_true c301
      clear c301
      have HX_ := aM (Option.some.inj H)
      clear H
      have hnb302 := NB622_597.out
      have hnc302 := NB597_622.out
      have hnb303 := NB622_598.out
      have hnc303 := NB598_622.out
      have hnb304 := NB622_610.out
      have hnc304 := NB610_622.out
      have hnb305 := NB622_634.out
      have hnc305 := NB634_622.out
      have hnb306 := NB622_647.out
      have hnc306 := NB647_622.out
      have hnb307 := NB622_659.out
      have hnc307 := NB659_622.out
      have hnb308 := NB622_671.out
      have hnc308 := NB671_622.out
      have hcz309 := cA11 BK622.out
      go_wp2_with (first | ((with_reducible refine gC (f := 28) rfl ?_); refine gL (some 91) Try.func28 #[.agg #[.bool t611, .bool t612, .int .i64 t613, .int .i64 t614, .int .i64 t615, .int .i64 t616, .int .i64 t617, .int .i64 t618, .int .i64 t619, .int .i64 t620, .bool t621]] ?_; (with_reducible refine (impl_PortOk.calls kj90 t611 t612 t613 t614 t615 t616 t617 t618 t619 t620 t621 true _ A299.out).mono ?_); rintro e w310 ⟨rfl, hb⟩; refine ⟨_, rfl, ?_⟩; replace BK597 := aM (bB (bk BK597.out) hb); replace BK598 := aM (bB (bk BK598.out) hb); replace BK610 := aM (bB (bk BK610.out) hb); replace BK622 := aM (bB (bk BK622.out) hb); replace BK634 := aM (bB (bk BK634.out) hb); replace BK647 := aM (bB (bk BK647.out) hb); replace BK659 := aM (bB (bk BK659.out) hb); replace BK671 := aM (bB (bk BK671.out) hb); replace HB := aM (bS (bl HB.out) hb); (try clear hb); have hnb311 := NB634_597.out; have hnc311 := NB597_634.out; have hnb312 := NB634_598.out; have hnc312 := NB598_634.out; have hnb313 := NB634_610.out; have hnc313 := NB610_634.out; have hnb314 := NB634_647.out; have hnc314 := NB647_634.out; have hnb315 := NB634_659.out; have hnc315 := NB659_634.out; have hnb316 := NB634_671.out; have hnc316 := NB671_634.out; have hcz317 := cA11 BK634.out; have hcz318 := cA11 BK622.out))
      go_ret
      exact ⟨by first | rfl | (rw [HX_.out] <;> rfl) | (simp [errW_none, errW_some] <;> rfl) | (simp [*, errW_none, errW_some] <;> rfl), bl HB.out⟩
     rw [if_neg c301] at H
     have c301b0 : decide (t630 < t618) = false := decide_eq_false c301
     clear c301
     have HX_ := aM (Option.some.inj H)
     clear H
     have hnb319 := NB622_597.out
     have hnc319 := NB597_622.out
     have hnb320 := NB622_598.out
     have hnc320 := NB598_622.out
     have hnb321 := NB622_610.out
     have hnc321 := NB610_622.out
     have hnb322 := NB622_634.out
     have hnc322 := NB634_622.out
     have hnb323 := NB622_647.out
     have hnc323 := NB647_622.out
     have hnb324 := NB622_659.out
     have hnc324 := NB659_622.out
     have hnb325 := NB622_671.out
     have hnc325 := NB671_622.out
     have hcz326 := cA11 BK622.out
     go_wp2_with (first | ((with_reducible refine gC (f := 28) rfl ?_); refine gL (some 91) Try.func28 #[.agg #[.bool t611, .bool t612, .int .i64 t613, .int .i64 t614, .int .i64 t615, .int .i64 t616, .int .i64 t617, .int .i64 t618, .int .i64 t619, .int .i64 t620, .bool t621]] ?_; (with_reducible refine (impl_PortOk.calls kj90 t611 t612 t613 t614 t615 t616 t617 t618 t619 t620 t621 true _ A299.out).mono ?_); rintro e w327 ⟨rfl, hb⟩; refine ⟨_, rfl, ?_⟩; replace BK597 := aM (bB (bk BK597.out) hb); replace BK598 := aM (bB (bk BK598.out) hb); replace BK610 := aM (bB (bk BK610.out) hb); replace BK622 := aM (bB (bk BK622.out) hb); replace BK634 := aM (bB (bk BK634.out) hb); replace BK647 := aM (bB (bk BK647.out) hb); replace BK659 := aM (bB (bk BK659.out) hb); replace BK671 := aM (bB (bk BK671.out) hb); replace HB := aM (bS (bl HB.out) hb); (try clear hb); have hnb328 := NB634_597.out; have hnc328 := NB597_634.out; have hnb329 := NB634_598.out; have hnc329 := NB598_634.out; have hnb330 := NB634_610.out; have hnc330 := NB610_634.out; have hnb331 := NB634_647.out; have hnc331 := NB647_634.out; have hnb332 := NB634_659.out; have hnc332 := NB659_634.out; have hnb333 := NB634_671.out; have hnc333 := NB671_634.out; have hcz334 := cA11 BK634.out; have hcz335 := cA11 BK622.out))
     go_ret
     exact ⟨by first | rfl | (rw [HX_.out] <;> rfl) | (simp [errW_none, errW_some] <;> rfl) | (simp [*, errW_none, errW_some] <;> rfl), bl HB.out⟩

end Go.Proofs.Ytaoipjdmmamkmaa.PFnPorts
