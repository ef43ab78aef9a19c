/- By hand: the library's strings.Index at a separator of one letter. -/
import Derived.Shelf.Strings.Split
import Derived.Test.YtbjifeobhenkfaaDH0
import Derived.Test.YtbjifeobhenkfaaEE
set_option linter.unusedVariables false
set_option linter.unusedSimpArgs false
namespace Go.Proofs
open Go.Shelf Go.RowKit Go.Sort Go.Lib
def Try.lays219_ren : Go.Shelf.Ren := ⟨fun | 219 => 82 | 217 => 87 | 225 => 88 | 224 => 89 | 267 => 90 | 266 => 93 | 314 => 94 | n => n, fun | 9 => 9 | 3 => 3 | 4 => 4 | 5 => 5 | 46 => 134 | 146 => 157 | 51 => 149 | n => n, fun | 1 => 0 | n => n⟩
theorem Try.lays219 : Go.Proofs.Lays.n219 Try.prog Try.lays219_ren := {
 mixed := by kernel_rfl
 f217 := Try.func87.trans (congrArg some (by kernel_rfl))
 f219 := Try.func82.trans (congrArg some (by kernel_rfl))
 f224 := Try.func89.trans (congrArg some (by kernel_rfl))
 f225 := Try.func88.trans (congrArg some (by kernel_rfl))
 f266 := Try.func93.trans (congrArg some (by kernel_rfl))
 f267 := Try.func90.trans (congrArg some (by kernel_rfl))
 f314 := Try.func94.trans (congrArg some (by kernel_rfl))
 t3 := Try.underlying3
 a3 := Try.isAgg3
 z3 := Try.sizeOf3
 v3 := Try.zeroValue3
 t4 := Try.underlying4
 a4 := Try.isAgg4
 z4 := Try.sizeOf4
 v4 := Try.zeroValue4
 t5 := Try.underlying5
 a5 := Try.isAgg5
 z5 := Try.sizeOf5
 v5 := Try.zeroValue5
 t9 := Try.underlying9
 a9 := Try.isAgg9
 z9 := Try.sizeOf9
 v9 := Try.zeroValue9
 t46 := Try.underlying134
 a46 := Try.isAgg134
 z46 := Try.sizeOf134
 v46 := Try.zeroValue134
 t51 := Try.underlying149
 a51 := Try.isAgg149
 z51 := Try.sizeOf149
 v51 := Try.zeroValue149
 t146 := Try.underlying157
 a146 := Try.isAgg157
 z146 := Try.sizeOf157
 v146 := Try.zeroValue157
 g1 := by kernel_rfl }
end Go.Proofs
namespace Go.Proofs.Ytbjifeobhenkfaa
open Go Go.Eng Go.RowKit
def idx1 (s sep : ByteArray) : Int := Lib.indexB s sep
theorem idx1_calls (s sep : ByteArray) (h1 : sep.size = 1) (w : World) (vs : List Value) (ρ : Eng.Loc) (M : Mem) (hr : repL ρ M noG [.str s, .str sep] vs) :
  Calls Try.prog 82 ⟨vs⟩ w fun e w' => ∃ v, e = .returned v ∧ (∀ ρ M, rep ρ M noG (.int .i64 (idx1 s sep)) v) ∧ Below w.heap.size w w' := by
 match vs, hr with
 | [x, y], hr =>
  simp only [repL, rep, and_true] at hr
  obtain ⟨rfl, rfl⟩ := hr
  obtain ⟨c, rfl⟩ := Lib.one_byte sep h1
  refine (Any.stringslite_Index_one Try.lays219 s c w).mono ?_
  rintro e w' ⟨rfl, rfl⟩
  refine ⟨_, rfl, fun ρ M => ?_, Below.refl _ _⟩
  simp only [rep]
  show Value.int .i64 _ = Value.int .i64 (Lib.index s.data.toList [c])
  rw [Lib.index_one]
noncomputable def idx1_fact : Fact Try.prog := factBelow 82 Try.f82 (by kernel_rfl) rfl (by kernel_rfl) [.c .str, .c .str] (fun t => .int .i64 (idx1 t.1 t.2.1)) (fun t => [t.2.1.size = 1]) (fun _ _ => rfl) (fun _ _ => rfl)
 (fun t hp w vs ρ M _ hr => idx1_calls t.1 t.2.1 (hp _ List.mem_cons_self) w vs ρ M hr)
end Go.Proofs.Ytbjifeobhenkfaa
