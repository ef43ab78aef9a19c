/- Nothing is known of package variables. The ranges over functions. -/
import Derived.Lib.LaidTab
import Derived.Test.YtpffbkbadnhmmaaProg
set_option linter.unusedVariables false
set_option linter.unusedSimpArgs false
namespace Go.Eng
def Globs.G (_ : World) : Prop := True
def Z167 : Code → List Code
 | .seq x y => Z167 x ++ Z167 y
 | .cond _ x y => Z167 x ++ Z167 y
 | .block _ x => Z167 x
 | .scope x => Z167 x
 | .loop c => [.loop c]
 | .rangeFunc f ps x y => [.rangeFunc f ps x y]
 | _ => []
def rangeAt (l : List Code) (k : Nat) : Array Tmp × Code × Code := match l[k]? with
 | some (.rangeFunc _ ps x y) => (ps, x, y)
 | _ => (#[], .skip, .skip)
noncomputable def Globs.site : Nat → Array Tmp × Code × Code
 | 0 => rangeAt (Z167 (Go.Proofs.Try.f23.body.getD .skip)) 0
 | 1 => rangeAt (Z167 (rangeAt (Z167 (Go.Proofs.Try.f23.body.getD .skip)) 0).2.2) 0
 | 2 => rangeAt (Z167 (Go.Proofs.Try.f24.body.getD .skip)) 0
 | 3 => rangeAt (Z167 (Go.Proofs.Try.f115.body.getD .skip)) 0
 | _ => (#[], .skip, .skip)
end Go.Eng
