/- Nothing is known of package variables. The ranges over functions. -/
import Derived.Lib.LaidTab
import Derived.Test.YtkledlcmhbjadaaGreatProg
set_option linter.unusedVariables false
set_option linter.unusedSimpArgs false
namespace Go.Eng
def Globs.G (_ : World) : Prop := True
def Z16e : Code → List Code
 | .seq x y => Z16e x ++ Z16e y
 | .cond _ x y => Z16e x ++ Z16e y
 | .block _ x => Z16e x
 | .scope x => Z16e x
 | .loop c => [.loop c]
 | .rangeFunc f ps x y => [.rangeFunc f ps x y]
 | _ => []
def rangeAt (l : List Code) (k : Nat) : Array Tmp × Code × Code := match l[k]? with
 | some (.rangeFunc _ ps x y) => (ps, x, y)
 | _ => (#[], .skip, .skip)
noncomputable def Globs.site : Nat → Array Tmp × Code × Code
 | 0 => rangeAt (Z16e (Go.Proofs.Tryz.f42.body.getD .skip)) 0
 | 1 => rangeAt (Z16e (rangeAt (Z16e (Go.Proofs.Tryz.f42.body.getD .skip)) 0).2.2) 0
 | 2 => rangeAt (Z16e (Go.Proofs.Tryz.f52.body.getD .skip)) 0
 | 3 => rangeAt (Z16e (Go.Proofs.Tryz.f95.body.getD .skip)) 0
 | _ => (#[], .skip, .skip)
end Go.Eng
