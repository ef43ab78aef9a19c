/- What is known of the package's variables, wherever the engine walks: the table of powers of ten. The ranges over functions. -/
import Derived.Lib.LaidTab
import Derived.Lib.ItoaNum
import Derived.Test.YtnfmnipckcidlaaDoorProg
set_option linter.unusedVariables false
set_option linter.unusedSimpArgs false
namespace Go.Eng
def Globs.G (w : World) : Prop := Lib.TabIs Go.Proofs.Tryd.prog w "internal/strconv.uint64pow10" .u64 Lib.pow10Tab
/-- Loops and ranges over functions, in their order. -/
def loopsR : Code → List Code
  | .seq x y => loopsR x ++ loopsR y
  | .cond _ x y => loopsR x ++ loopsR y
  | .block _ x => loopsR x
  | .scope x => loopsR x
  | .loop c => [.loop c]
  | .rangeFunc f ps x y => [.rangeFunc f ps x y]
  | _ => []
def rangeAt (l : List Code) (k : Nat) : Array Tmp × Code × Code := match l[k]? with
  | some (.rangeFunc _ ps x y) => (ps, x, y)
  | _ => (#[], .skip, .skip)
/-- The ranges over functions, by numbers: parameters, assignment, body. -/
noncomputable def Globs.site : Nat → Array Tmp × Code × Code
  | 0 => rangeAt (loopsR (Go.Proofs.Tryd.f30.body.getD .skip)) 0
  | 1 => rangeAt (loopsR (Go.Proofs.Tryd.f31.body.getD .skip)) 0
  | 2 => rangeAt (loopsR (Go.Proofs.Tryd.f13.body.getD .skip)) 0
  | 3 => rangeAt (loopsR (Go.Proofs.Tryd.f15.body.getD .skip)) 0
  | _ => (#[], .skip, .skip)
end Go.Eng
