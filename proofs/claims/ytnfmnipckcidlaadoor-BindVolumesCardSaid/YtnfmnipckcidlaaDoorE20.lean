/- The engine, part 20: what is known of a function, out of a contract of the kit's make. -/
import Derived.Test.YtnfmnipckcidlaaDoorE19
import Derived.Sort.Grow
import Derived.Lib.AppendIntMem
import Derived.Laws.RangeString
set_option linter.unusedVariables false
set_option linter.unusedSimpArgs false
namespace Go.Eng
open Go.RowKit (Below)

theorem Keeps.of_below {B : Nat → Prop} {w w' : World} (h : Below w.heap.size w w') (hB : ∀ b, B b → b < w.heap.size) : Keeps B w w' := ⟨h.os, h.tape, h.output, h.size, fun k hk => h.block k (hB k hk)⟩
/-- A call that leaves all that is there as it is. -/
theorem SimH.call {B : Nat → Prop} {w0 w w' : World} {M0 M : Mem} {h : List AObj} {ρ : Loc} (H : SimH B w0 M0 h w ρ M) (hb : Below w.heap.size w w') : SimH B w0 M0 h w' ρ M :=
  H.world (Mem.le_refl _) (fun i r _ hr => ⟨hb.block r (H.own r i hr).2, fun _ h => h⟩) (fun b o v hv => by
    have hc := H.mem b o v hv
    have hlt := World.block_lt_of_cell? w _ hc
    rw [← hc]
    unfold World.cell?
    rw [hb.block b hlt]) (fun _ _ _ => rfl) (Keeps.of_below hb H.size)
theorem SimH.globs {B : Nat → Prop} {w0 w : World} {M0 M : Mem} {h : List AObj} {ρ : Loc} (H : SimH B w0 M0 h w ρ M) : Globs.G w := H.good w H.below.block
theorem KSound.of_below {P : Program} {f : FuncId} {args : List AV} {x : AV}
    (hc : ∀ (w : World) (vs : List Value) (ρ : Loc) (M : Mem), Globs.G w → repL ρ M noG args vs → Calls P f ⟨vs⟩ w fun e w' => ∃ v, e = .returned v ∧ (∀ ρ M, rep ρ M noG x v) ∧ Below w.heap.size w w') (hr : List AObj) (nid : Nat) : KSound P f args hr nid x [] := by
  intro B w0 M0 h w ρ M vs H _ _ hargs
  refine (hc w vs ρ M H.globs hargs).mono ?_
  rintro e w' ⟨v, rfl, hv, hb⟩
  exact ⟨v, ρ, M, rfl, ⟨Loc.le_refl _, fun _ _ => rfl⟩, Mem.le_refl _, H.call hb, hv _ _⟩
noncomputable def factBelow {P : Program} (f : FuncId) (fn : Func) {c : Code} (hf : P.funcs[f]? = some fn) (hb : fn.body = some c) (hname : (fn.name == "runtime.NumGoroutine") = false) (tps : List TP)
    (res : TPL.Ty tps → AV) (pre : TPL.Ty tps → List Prop) (ha : ∀ σ t, renL σ (TPL.enc tps t) = TPL.enc tps t) (hx : ∀ σ t, ren σ (res t) = res t)
    (hc : ∀ t, (∀ p ∈ pre t, p) → ∀ (w : World) (vs : List Value) (ρ : Loc) (M : Mem), Globs.G w → repL ρ M noG (TPL.enc tps t) vs → Calls P f ⟨vs⟩ w fun e w' => ∃ v, e = .returned v ∧ (∀ ρ M, rep ρ M noG (res t) v) ∧ Below w.heap.size w w') : Fact P where
  f := f
  K := factK tps [] true (fun t _ => res t) (fun _ _ => []) (fun t _ => pre t)
  ent := ent_of hf hb hname
  ok := fun args h nid x effs need hkk hn => by
    unfold factK at hkk
    simp only at hkk
    generalize meet tps [] args h = ids at hkk
    split at hkk
    case isFalse => cases hkk
    split at hkk
    case h_2 => cases hkk
    rename_i t u ht hu
    simp only [Option.some.injEq, Prod.mk.injEq, if_true] at hkk
    obtain ⟨rfl, rfl, rfl⟩ := hkk
    have he := TPL.dec_eq nid tps ht
    rw [ha] at he
    rw [he, hx]
    exact KSound.of_below (hc t hn) h nid
/-! ### Strings' runes -/
theorem decode_pos (s : ByteArray) (i : Nat) (_h : i < s.size) : 1 ≤ (Utf8.decode s i).2 := by
  unfold Utf8.decode
  simp only
  repeat' split
  all_goals simp
theorem decode_big (s : ByteArray) (i : Nat) (h : ¬ (s.get! i).toNat < 128) : 128 ≤ (Utf8.decode s i).1 := by
  unfold Utf8.decode
  simp only [Nat.add_zero, h, if_false]
  repeat' split
  all_goals first
    | (simp only [Bool.and_eq_true, decide_eq_true_eq, ge_iff_le] at *; omega)
    | (show 128 ≤ Utf8.runeError; decide)
theorem cond_t {α : Type} {b : Bool} (h : b = true) {x y z : α} (k : x = z) : cond b x y = z := by rw [h]; exact k
theorem cond_f {α : Type} {b : Bool} (h : b = false) {x y z : α} (k : y = z) : cond b x y = z := by rw [h]; exact k
end Go.Eng
namespace Go.Eng
/-- A loop within a loop's body. -/
def loopSub (c : Code) (b k : Nat) : Code := ((loopsIn b c)[k]?.map fun p => loopBody p.2).getD .skip
end Go.Eng
namespace Go.Eng
def XLabel.Fine (x : XLabel) : Prop := x.key.size < 4611686018427387904 ∧ x.value.size < 4611686018427387904
def XTerm.Fine (x : XTerm) : Prop := x.key.size < 4611686018427387904 ∧ x.values.length < 4611686018427387904 ∧ ∀ v ∈ x.values, v.size < 4611686018427387904
theorem XLabel.Ok.fine {x : XLabel} (h : x.Ok) : x.Fine := by
  have h1 := h.key
  have h2 := h.value
  have h3 : reachBytes < 4611686018427387904 := by decide
  exact ⟨by omega, by omega⟩
theorem XTerm.Ok.fine {x : XTerm} (h : x.Ok) : x.Fine := by
  have h1 := h.key
  have h2 := h.values
  have h3 : reachBytes < 4611686018427387904 := by decide
  exact ⟨by omega, by omega, fun v hv => by have := h2.2 v hv; omega⟩
end Go.Eng
