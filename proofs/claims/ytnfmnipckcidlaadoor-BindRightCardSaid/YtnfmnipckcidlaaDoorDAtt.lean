/- Binding: an attachment's name: the volume's, a stroke, the node's. -/
import Derived.Room.Shelf.Join48
import Derived.Test.YtnfmnipckcidlaaDoorDFmt
set_option linter.unusedVariables false
set_option linter.unusedSimpArgs false
namespace Go.Proofs
open Go.Shelf Go.RowKit Go.Sort Go.Lib
def Tryd.lays156_ren : Go.Shelf.Ren := ⟨fun | 156 => 73 | 165 => 79 | 166 => 80 | 169 => 81 | 240 => 84 | 241 => 85 | 276 => 86 | 277 => 87 | n => n, fun | 31 => 89 | 9 => 9 | 3 => 3 | 4 => 4 | 0 => 0 | 20 => 20 | 72 => 100 | 76 => 104 | 70 => 98 | 37 => 85 | 75 => 103 | 127 => 108 | 164 => 111 | 5 => 5 | 80 => 106 | n => n, fun | n => n⟩
theorem Tryd.lays156 : Go.Proofs.Lays.n156 Tryd.prog Tryd.lays156_ren := {
  mixed := by kernel_rfl
  f156 := Tryd.func73.trans (congrArg some (by kernel_rfl))
  f165 := Tryd.func79.trans (congrArg some (by kernel_rfl))
  f166 := Tryd.func80.trans (congrArg some (by kernel_rfl))
  f169 := Tryd.func81.trans (congrArg some (by kernel_rfl))
  f240 := Tryd.func84.trans (congrArg some (by kernel_rfl))
  f241 := Tryd.func85.trans (congrArg some (by kernel_rfl))
  f276 := Tryd.func86.trans (congrArg some (by kernel_rfl))
  f277 := Tryd.func87.trans (congrArg some (by kernel_rfl))
  t0 := Tryd.underlying0
  a0 := Tryd.isAgg0
  z0 := Tryd.sizeOf0
  v0 := Tryd.zeroValue0
  t3 := Tryd.underlying3
  a3 := Tryd.isAgg3
  z3 := Tryd.sizeOf3
  v3 := Tryd.zeroValue3
  t4 := Tryd.underlying4
  a4 := Tryd.isAgg4
  z4 := Tryd.sizeOf4
  v4 := Tryd.zeroValue4
  t9 := Tryd.underlying9
  a9 := Tryd.isAgg9
  z9 := Tryd.sizeOf9
  v9 := Tryd.zeroValue9
  t20 := Tryd.underlying20
  a20 := Tryd.isAgg20
  z20 := Tryd.sizeOf20
  v20 := Tryd.zeroValue20
  t31 := Tryd.underlying89
  a31 := Tryd.isAgg89
  z31 := Tryd.sizeOf89
  v31 := Tryd.zeroValue89
  t37 := Tryd.underlying85
  a37 := Tryd.isAgg85
  z37 := Tryd.sizeOf85
  v37 := Tryd.zeroValue85
  t70 := Tryd.underlying98
  a70 := Tryd.isAgg98
  z70 := Tryd.sizeOf98
  v70 := Tryd.zeroValue98
  t72 := Tryd.underlying100
  a72 := Tryd.isAgg100
  z72 := Tryd.sizeOf100
  v72 := Tryd.zeroValue100
  t75 := Tryd.underlying103
  a75 := Tryd.isAgg103
  z75 := Tryd.sizeOf103
  v75 := Tryd.zeroValue103
  t76 := Tryd.underlying104
  a76 := Tryd.isAgg104
  z76 := Tryd.sizeOf104
  v76 := Tryd.zeroValue104
  t127 := Tryd.underlying108
  a127 := Tryd.isAgg108
  z127 := Tryd.sizeOf108
  v127 := Tryd.zeroValue108
  t164 := Tryd.underlying111
  a164 := Tryd.isAgg111
  z164 := Tryd.sizeOf111
  v164 := Tryd.zeroValue111 }
theorem Tryd.extra156 : Builder.Extra Tryd.prog Tryd.lays156_ren where
  sizeBuilder := by kernel_rfl
  liesBuilder := by kernel_rfl
  t5 := by kernel_rfl
  a5 := fun w => by kernel_rfl
  z5 := fun w => by kernel_rfl
  v5 := fun w => by kernel_rfl
  infoByte := by kernel_rfl
  cellsByte := by kernel_rfl
  sizeByte := by kernel_rfl
  neB5 := by decide
set_option maxRecDepth 100000
set_option maxHeartbeats 6400000 in
theorem Tryd.AttachName (a b : ByteArray) (h : a.size + b.size + 1 ≤ 281474976710656) (w : World) :
    Calls Tryd.prog 68 #[.string a, .string b] w fun e w' => e = .returned (.string ((a ++ (⟨#[47]⟩ : ByteArray)) ++ b)) ∧ Below w.heap.size w w' := by
  have mixed : Tryd.prog.follows .mixedOrders = true := by kernel_rfl
  have t89 := Tryd.underlying89; have t9 := Tryd.underlying9
  have e73 : ∀ args w, (callFunc 73 args).run Tryd.prog w = .ok (.enter 73 args) w := enters_of Tryd.func73 (by kernel_rfl) rfl
  have hj : (Lib.join ([a, b].map (·.data.toList)) (⟨#[47]⟩ : ByteArray).data.toList) = a.data.toList ++ 47 :: b.data.toList := by simp [Lib.join_cons, Lib.joinTail]
  have hs : (⟨(a.data.toList ++ 47 :: b.data.toList).toArray⟩ : ByteArray) = (a ++ (⟨#[47]⟩ : ByteArray)) ++ b := by
    have : ∀ x y : ByteArray, x.data = y.data → x = y := fun x y h => by cases x; cases y; cases h; rfl
    apply this
    apply Array.toList_inj.1
    simp [ByteArray.data_append]
  go_enter Tryd.func68, Tryd.ntmps68
  go_wp2_with (go_at_fn 73; refine (Any.strings_Join_48 Tryd.lays156 Tryd.extra156 w.heap.size 0 2 [a, b] ⟨#[47]⟩ _ ?_ ?_ ?_ ?_ ?_).mono ?_)
  · intro j x hx
    match j, hx with
    | 0, hx => obtain rfl : a = x := by simpa using hx
               rfl
    | 1, hx => obtain rfl : b = x := by simpa using hx
               rfl
    | k + 2, hx => simp at hx
  · have hj' : Lib.join [a.data.toList, b.data.toList] [47] = a.data.toList ++ 47 :: b.data.toList := hj
    rw [hj', List.length_append, List.length_cons, Array.length_toList, Array.length_toList]
    have h1 : a.data.size = a.size := rfl
    have h2 : b.data.size = b.size := rfl
    omega
  · intro e w' he hb
    have hj' : Lib.join [a.data.toList, b.data.toList] [47] = a.data.toList ++ 47 :: b.data.toList := hj
    rw [hj', hs] at he
    subst he
    have hb' := Any.hidJ hb
    clear hb
    go_wp2
    go_ret
    exact ⟨rfl, (Below.alloc (Below.refl _ _) (Nat.le_refl _) _).trans (hb'.out.mono (by omega))⟩
end Go.Proofs
namespace Go.Proofs.YtnfmnipckcidlaaDoor
open Go Go.Eng Go.RowKit
/-- An attachment's name. -/
def attF (a b : ByteArray) : ByteArray := (a ++ (⟨#[47]⟩ : ByteArray)) ++ b
theorem attF_calls (a b : ByteArray) (ha : a.size ≤ 140737488351232) (hb : b.size ≤ 140737488351232) (w : World) (vs : List Value) (ρ : Eng.Loc) (M : Mem) (hr : repL ρ M noG [.str a, .str b] vs) :
    Calls Tryd.prog 68 ⟨vs⟩ w fun e w' => ∃ v, e = .returned v ∧ (∀ ρ M, rep ρ M noG (.str (attF a b)) v) ∧ Below w.heap.size w w' := by
  match vs, hr with
  | [x, y], hr =>
    simp only [repL, rep, and_true] at hr
    obtain ⟨rfl, rfl⟩ := hr
    refine (Tryd.AttachName a b (by omega) w).mono ?_
    rintro e w' ⟨rfl, hb⟩
    exact ⟨_, rfl, fun ρ M => by simp only [rep]; rfl, hb⟩
noncomputable def attF_fact : Fact Tryd.prog := factBelow 68 Tryd.f68 (by kernel_rfl) rfl (by kernel_rfl) [.c .str, .c .str] (fun t => .str (attF t.1 t.2.1)) (fun t => [t.1.size ≤ 140737488351232, t.2.1.size ≤ 140737488351232]) (fun _ _ => rfl) (fun _ _ => by simp [ren])
  (fun t hp w vs ρ M _ hr => attF_calls t.1 t.2.1 (hp _ List.mem_cons_self) (hp _ (List.mem_cons_of_mem _ List.mem_cons_self)) w vs ρ M hr)
end Go.Proofs.YtnfmnipckcidlaaDoor
