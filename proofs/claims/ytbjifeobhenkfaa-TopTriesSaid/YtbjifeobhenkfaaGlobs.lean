/- What is known of the package's variables, wherever the engine walks: nothing. -/
import GoSem.Claim
set_option linter.unusedVariables false
set_option linter.unusedSimpArgs false
namespace Go.Eng
def Globs.G (_ : World) : Prop := True
def Globs.site (_ : Nat) : Array Tmp × Code × Code := (#[], .skip, .skip)
end Go.Eng
