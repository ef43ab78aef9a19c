/- Binding: an attachment's name: the volume's, a stroke, the node's. -/
import Derived.Room.Shelf.Join48
import Derived.Test.YtkledlcmhbjadaaGreatDoorDFmt
set_option linter.unusedVariables false
set_option linter.unusedSimpArgs false
namespace Go.Proofs
open Go.Shelf Go.RowKit Go.Sort Go.Lib
def Tryz.lays156_ren : Go.Shelf.Ren := ⟨fun | 156 => 57 | 165 => 68 | 166 => 69 | 169 => 70 | 240 => 80 | 241 => 81 | 276 => 87 | 277 => 88 | n => n, fun | 31 => 51 | 9 => 9 | 3 => 3 | 4 => 4 | 0 => 0 | 20 => 20 | 72 => 137 | 76 => 141 | 70 => 135 | 37 => 22 | 75 => 140 | 127 => 153 | 164 => 157 | 5 => 5 | 80 => 143 | n => n, fun | n => n⟩
theorem Tryz.lays156 : Go.Proofs.Lays.n156 Tryz.prog Tryz.lays156_ren := {
 mixed := by kernel_rfl
 f156 := Tryz.func57.trans (congrArg some (by kernel_rfl))
 f165 := Tryz.func68.trans (congrArg some (by kernel_rfl))
 f166 := Tryz.func69.trans (congrArg some (by kernel_rfl))
 f169 := Tryz.func70.trans (congrArg some (by kernel_rfl))
 f240 := Tryz.func80.trans (congrArg some (by kernel_rfl))
 f241 := Tryz.func81.trans (congrArg some (by kernel_rfl))
 f276 := Tryz.func87.trans (congrArg some (by kernel_rfl))
 f277 := Tryz.func88.trans (congrArg some (by kernel_rfl))
 t0 := Tryz.underlying0
 a0 := Tryz.isAgg0
 z0 := Tryz.sizeOf0
 v0 := Tryz.zeroValue0
 t3 := Tryz.underlying3
 a3 := Tryz.isAgg3
 z3 := Tryz.sizeOf3
 v3 := Tryz.zeroValue3
 t4 := Tryz.underlying4
 a4 := Tryz.isAgg4
 z4 := Tryz.sizeOf4
 v4 := Tryz.zeroValue4
 t9 := Tryz.underlying9
 a9 := Tryz.isAgg9
 z9 := Tryz.sizeOf9
 v9 := Tryz.zeroValue9
 t20 := Tryz.underlying20
 a20 := Tryz.isAgg20
 z20 := Tryz.sizeOf20
 v20 := Tryz.zeroValue20
 t31 := Tryz.underlying51
 a31 := Tryz.isAgg51
 z31 := Tryz.sizeOf51
 v31 := Tryz.zeroValue51
 t37 := Tryz.underlying22
 a37 := Tryz.isAgg22
 z37 := Tryz.sizeOf22
 v37 := Tryz.zeroValue22
 t70 := Tryz.underlying135
 a70 := Tryz.isAgg135
 z70 := Tryz.sizeOf135
 v70 := Tryz.zeroValue135
 t72 := Tryz.underlying137
 a72 := Tryz.isAgg137
 z72 := Tryz.sizeOf137
 v72 := Tryz.zeroValue137
 t75 := Tryz.underlying140
 a75 := Tryz.isAgg140
 z75 := Tryz.sizeOf140
 v75 := Tryz.zeroValue140
 t76 := Tryz.underlying141
 a76 := Tryz.isAgg141
 z76 := Tryz.sizeOf141
 v76 := Tryz.zeroValue141
 t127 := Tryz.underlying153
 a127 := Tryz.isAgg153
 z127 := Tryz.sizeOf153
 v127 := Tryz.zeroValue153
 t164 := Tryz.underlying157
 a164 := Tryz.isAgg157
 z164 := Tryz.sizeOf157
 v164 := Tryz.zeroValue157 }
theorem Tryz.extra156 : Builder.Extra Tryz.prog Tryz.lays156_ren where
 sizeBuilder := by kernel_rfl
 liesBuilder := by kernel_rfl
 t5 := by kernel_rfl
 a5 := fun w => by kernel_rfl
 z5 := fun w => by kernel_rfl
 v5 := fun w => by kernel_rfl
 infoByte := by kernel_rfl
 cellsByte := by kernel_rfl
 sizeByte := by kernel_rfl
 neB5 := by decide
set_option maxRecDepth 100000
set_option maxHeartbeats 6400000 in
theorem Tryz.AttachName (a b : ByteArray) (h : a.size + b.size + 1 ≤ 281474976710656) (w : World) :
  Calls Tryz.prog 48 #[.string a, .string b] w fun e w' => e = .returned (.string ((a ++ (⟨#[47]⟩ : ByteArray)) ++ b)) ∧ Below w.heap.size w w' := by
 have mixed : Tryz.prog.follows .mixedOrders = true := by kernel_rfl
 have t89 := Tryz.underlying51; have t9 := Tryz.underlying9
 have e73 : ∀ args w, (callFunc 57 args).run Tryz.prog w = .ok (.enter 57 args) w := enters_of Tryz.func57 (by kernel_rfl) rfl
 have hj : (Lib.join ([a, b].map (·.data.toList)) (⟨#[47]⟩ : ByteArray).data.toList) = a.data.toList ++ 47 :: b.data.toList := by simp [Lib.join_cons, Lib.joinTail]
 have hs : (⟨(a.data.toList ++ 47 :: b.data.toList).toArray⟩ : ByteArray) = (a ++ (⟨#[47]⟩ : ByteArray)) ++ b := by
  have : ∀ x y : ByteArray, x.data = y.data → x = y := fun x y h => by cases x; cases y; cases h; rfl
  apply this
  apply Array.toList_inj.1
  simp [ByteArray.data_append]
 go_enter Tryz.func48, Tryz.ntmps48
 go_wp2_with (go_at_fn 57; refine (Any.strings_Join_48 Tryz.lays156 Tryz.extra156 w.heap.size 0 2 [a, b] ⟨#[47]⟩ _ ?_ ?_ ?_ ?_ ?_).mono ?_)
 · intro j x hx
   match j, hx with
   | 0, hx => obtain rfl : a = x := by simpa using hx
              rfl
   | 1, hx => obtain rfl : b = x := by simpa using hx
              rfl
   | k + 2, hx => simp at hx
 · have hj' : Lib.join [a.data.toList, b.data.toList] [47] = a.data.toList ++ 47 :: b.data.toList := hj
   rw [hj', List.length_append, List.length_cons, Array.length_toList, Array.length_toList]
   have h1 : a.data.size = a.size := rfl
   have h2 : b.data.size = b.size := rfl
   omega
 · intro e w' he hb
   have hj' : Lib.join [a.data.toList, b.data.toList] [47] = a.data.toList ++ 47 :: b.data.toList := hj
   rw [hj', hs] at he
   subst he
   have hb' := Any.hidJ hb
   clear hb
   go_wp2
   go_ret
   exact ⟨rfl, (Below.alloc (Below.refl _ _) (Nat.le_refl _) _).trans (hb'.out.mono (by omega))⟩
end Go.Proofs
namespace Go.Proofs.YtkledlcmhbjadaaGreatDoor
open Go Go.Eng Go.RowKit
def attF (a b : ByteArray) : ByteArray := (a ++ (⟨#[47]⟩ : ByteArray)) ++ b
theorem attF_calls (a b : ByteArray) (ha : a.size ≤ 140737488351232) (hb : b.size ≤ 140737488351232) (w : World) (vs : List Value) (ρ : Eng.Loc) (M : Mem) (hr : repL ρ M noG [.str a, .str b] vs) :
  Calls Tryz.prog 48 ⟨vs⟩ w fun e w' => ∃ v, e = .returned v ∧ (∀ ρ M, rep ρ M noG (.str (attF a b)) v) ∧ Below w.heap.size w w' := by
 match vs, hr with
 | [x, y], hr =>
  simp only [repL, rep, and_true] at hr
  obtain ⟨rfl, rfl⟩ := hr
  refine (Tryz.AttachName a b (by omega) w).mono ?_
  rintro e w' ⟨rfl, hb⟩
  exact ⟨_, rfl, fun ρ M => by simp only [rep]; rfl, hb⟩
noncomputable def attF_fact : Fact Tryz.prog := factBelow 48 Tryz.f48 (by kernel_rfl) rfl (by kernel_rfl) [.c .str, .c .str] (fun t => .str (attF t.1 t.2.1)) (fun t => [t.1.size ≤ 140737488351232, t.2.1.size ≤ 140737488351232]) (fun _ _ => rfl) (fun _ _ => by simp [ren])
 (fun t hp w vs ρ M _ hr => attF_calls t.1 t.2.1 (hp _ List.mem_cons_self) (hp _ (List.mem_cons_of_mem _ List.mem_cons_self)) w vs ρ M hr)
end Go.Proofs.YtkledlcmhbjadaaGreatDoor
