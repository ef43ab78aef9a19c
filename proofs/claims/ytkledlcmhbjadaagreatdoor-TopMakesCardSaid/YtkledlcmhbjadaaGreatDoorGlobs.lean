/- What is known of the package's variables, wherever the engine walks: the table of powers of ten. The ranges over functions. -/
import Derived.Lib.LaidTab
import Derived.Lib.ItoaNum
import Derived.Test.YtkledlcmhbjadaaGreatDoorProg
set_option linter.unusedVariables false
set_option linter.unusedSimpArgs false
namespace Go.Eng
def Globs.G (w : World) : Prop := Lib.TabIs Go.Proofs.Tryz.prog w "internal/strconv.uint64pow10" .u64 Lib.pow10Tab
def Z13c : Code → List Code
 | .seq x y => Z13c x ++ Z13c y
 | .cond _ x y => Z13c x ++ Z13c y
 | .block _ x => Z13c x
 | .scope x => Z13c x
 | .loop c => [.loop c]
 | .rangeFunc f ps x y => [.rangeFunc f ps x y]
 | _ => []
def Z1e6 (l : List Code) (k : Nat) : Array Tmp × Code × Code := match l[k]? with
 | some (.rangeFunc _ ps x y) => (ps, x, y)
 | _ => (#[], .skip, .skip)
noncomputable def Globs.site : Nat → Array Tmp × Code × Code
 | 0 => Z1e6 (Z13c (Go.Proofs.Tryz.f14.body.getD .skip)) 0
 | 1 => Z1e6 (Z13c (Go.Proofs.Tryz.f16.body.getD .skip)) 0
 | 2 => Z1e6 (Z13c (Go.Proofs.Tryz.f6.body.getD .skip)) 0
 | 3 => Z1e6 (Z13c (Go.Proofs.Tryz.f43.body.getD .skip)) 0
 | 4 => Z1e6 (Z13c (Go.Proofs.Tryz.f32.body.getD .skip)) 0
 | 5 => Z1e6 (Z13c (Z1e6 (Z13c (Go.Proofs.Tryz.f32.body.getD .skip)) 0).2.2) 0
 | _ => (#[], .skip, .skip)
end Go.Eng
