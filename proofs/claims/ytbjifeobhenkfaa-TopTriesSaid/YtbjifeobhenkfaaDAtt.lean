/- Binding: an attachment's name: the volume's, a stroke, the node's. -/
import Derived.Room.Shelf.Join48
import Derived.Test.YtbjifeobhenkfaaDH0
import Derived.Test.YtbjifeobhenkfaaEE
set_option linter.unusedVariables false
set_option linter.unusedSimpArgs false
namespace Go.Proofs
open Go.Shelf Go.RowKit Go.Sort Go.Lib
def Try.lays156_ren : Go.Shelf.Ren := ⟨fun | 156 => 60 | 165 => 79 | 166 => 80 | 169 => 81 | 240 => 85 | 241 => 86 | 276 => 91 | 277 => 92 | n => n, fun | 31 => 50 | 9 => 9 | 3 => 3 | 4 => 4 | 0 => 0 | 20 => 20 | 72 => 143 | 76 => 147 | 70 => 141 | 37 => 41 | 75 => 146 | 127 => 153 | 164 => 155 | 5 => 5 | 80 => 117 | n => n, fun | n => n⟩
theorem Try.lays156 : Go.Proofs.Lays.n156 Try.prog Try.lays156_ren := {
 mixed := by kernel_rfl
 f156 := Try.func60.trans (congrArg some (by kernel_rfl))
 f165 := Try.func79.trans (congrArg some (by kernel_rfl))
 f166 := Try.func80.trans (congrArg some (by kernel_rfl))
 f169 := Try.func81.trans (congrArg some (by kernel_rfl))
 f240 := Try.func85.trans (congrArg some (by kernel_rfl))
 f241 := Try.func86.trans (congrArg some (by kernel_rfl))
 f276 := Try.func91.trans (congrArg some (by kernel_rfl))
 f277 := Try.func92.trans (congrArg some (by kernel_rfl))
 t0 := Try.underlying0
 a0 := Try.isAgg0
 z0 := Try.sizeOf0
 v0 := Try.zeroValue0
 t3 := Try.underlying3
 a3 := Try.isAgg3
 z3 := Try.sizeOf3
 v3 := Try.zeroValue3
 t4 := Try.underlying4
 a4 := Try.isAgg4
 z4 := Try.sizeOf4
 v4 := Try.zeroValue4
 t9 := Try.underlying9
 a9 := Try.isAgg9
 z9 := Try.sizeOf9
 v9 := Try.zeroValue9
 t20 := Try.underlying20
 a20 := Try.isAgg20
 z20 := Try.sizeOf20
 v20 := Try.zeroValue20
 t31 := Try.underlying50
 a31 := Try.isAgg50
 z31 := Try.sizeOf50
 v31 := Try.zeroValue50
 t37 := Try.underlying41
 a37 := Try.isAgg41
 z37 := Try.sizeOf41
 v37 := Try.zeroValue41
 t70 := Try.underlying141
 a70 := Try.isAgg141
 z70 := Try.sizeOf141
 v70 := Try.zeroValue141
 t72 := Try.underlying143
 a72 := Try.isAgg143
 z72 := Try.sizeOf143
 v72 := Try.zeroValue143
 t75 := Try.underlying146
 a75 := Try.isAgg146
 z75 := Try.sizeOf146
 v75 := Try.zeroValue146
 t76 := Try.underlying147
 a76 := Try.isAgg147
 z76 := Try.sizeOf147
 v76 := Try.zeroValue147
 t127 := Try.underlying153
 a127 := Try.isAgg153
 z127 := Try.sizeOf153
 v127 := Try.zeroValue153
 t164 := Try.underlying155
 a164 := Try.isAgg155
 z164 := Try.sizeOf155
 v164 := Try.zeroValue155 }
theorem Try.extra156 : Builder.Extra Try.prog Try.lays156_ren where
 sizeBuilder := by kernel_rfl
 liesBuilder := by kernel_rfl
 t5 := by kernel_rfl
 a5 := fun w => by kernel_rfl
 z5 := fun w => by kernel_rfl
 v5 := fun w => by kernel_rfl
 infoByte := by kernel_rfl
 cellsByte := by kernel_rfl
 sizeByte := by kernel_rfl
 neB5 := by decide
set_option maxRecDepth 100000
set_option maxHeartbeats 6400000 in
theorem Try.AttachName (a b : ByteArray) (h : a.size + b.size + 1 ≤ 281474976710656) (w : World) :
  Calls Try.prog 32 #[.string a, .string b] w fun e w' => e = .returned (.string ((a ++ (⟨#[47]⟩ : ByteArray)) ++ b)) ∧ Below w.heap.size w w' := by
 have mixed : Try.prog.follows .mixedOrders = true := by kernel_rfl
 have t89 := Try.underlying50; have t9 := Try.underlying9
 have e73 : ∀ args w, (callFunc 60 args).run Try.prog w = .ok (.enter 60 args) w := enters_of Try.func60 (by kernel_rfl) rfl
 have hj : (Lib.join ([a, b].map (·.data.toList)) (⟨#[47]⟩ : ByteArray).data.toList) = a.data.toList ++ 47 :: b.data.toList := by simp [Lib.join_cons, Lib.joinTail]
 have hs : (⟨(a.data.toList ++ 47 :: b.data.toList).toArray⟩ : ByteArray) = (a ++ (⟨#[47]⟩ : ByteArray)) ++ b := by
  have : ∀ x y : ByteArray, x.data = y.data → x = y := fun x y h => by cases x; cases y; cases h; rfl
  apply this
  apply Array.toList_inj.1
  simp [ByteArray.data_append]
 go_enter Try.func32, Try.ntmps32
 go_wp2_with (go_at_fn 60; refine (Any.strings_Join_48 Try.lays156 Try.extra156 w.heap.size 0 2 [a, b] ⟨#[47]⟩ _ ?_ ?_ ?_ ?_ ?_).mono ?_)
 · intro j x hx
   match j, hx with
   | 0, hx => obtain rfl : a = x := by simpa using hx
              rfl
   | 1, hx => obtain rfl : b = x := by simpa using hx
              rfl
   | k + 2, hx => simp at hx
 · have hj' : Lib.join [a.data.toList, b.data.toList] [47] = a.data.toList ++ 47 :: b.data.toList := hj
   rw [hj', List.length_append, List.length_cons, Array.length_toList, Array.length_toList]
   have h1 : a.data.size = a.size := rfl
   have h2 : b.data.size = b.size := rfl
   omega
 · intro e w' he hb
   have hj' : Lib.join [a.data.toList, b.data.toList] [47] = a.data.toList ++ 47 :: b.data.toList := hj
   rw [hj', hs] at he
   subst he
   have hb' := Any.hidJ hb
   clear hb
   go_wp2
   go_ret
   exact ⟨rfl, (Below.alloc (Below.refl _ _) (Nat.le_refl _) _).trans (hb'.out.mono (by omega))⟩
end Go.Proofs
namespace Go.Proofs.Ytbjifeobhenkfaa
open Go Go.Eng Go.RowKit
def attF (a b : ByteArray) : ByteArray := (a ++ (⟨#[47]⟩ : ByteArray)) ++ b
theorem attF_calls (a b : ByteArray) (ha : a.size ≤ 140737488351232) (hb : b.size ≤ 140737488351232) (w : World) (vs : List Value) (ρ : Eng.Loc) (M : Mem) (hr : repL ρ M noG [.str a, .str b] vs) :
  Calls Try.prog 32 ⟨vs⟩ w fun e w' => ∃ v, e = .returned v ∧ (∀ ρ M, rep ρ M noG (.str (attF a b)) v) ∧ Below w.heap.size w w' := by
 match vs, hr with
 | [x, y], hr =>
  simp only [repL, rep, and_true] at hr
  obtain ⟨rfl, rfl⟩ := hr
  refine (Try.AttachName a b (by omega) w).mono ?_
  rintro e w' ⟨rfl, hb⟩
  exact ⟨_, rfl, fun ρ M => by simp only [rep]; rfl, hb⟩
noncomputable def attF_fact : Fact Try.prog := factBelow 32 Try.f32 (by kernel_rfl) rfl (by kernel_rfl) [.c .str, .c .str] (fun t => .str (attF t.1 t.2.1)) (fun t => [t.1.size ≤ 140737488351232, t.2.1.size ≤ 140737488351232]) (fun _ _ => rfl) (fun _ _ => by simp [ren])
 (fun t hp w vs ρ M _ hr => attF_calls t.1 t.2.1 (hp _ List.mem_cons_self) (hp _ (List.mem_cons_of_mem _ List.mem_cons_self)) w vs ρ M hr)
end Go.Proofs.Ytbjifeobhenkfaa
