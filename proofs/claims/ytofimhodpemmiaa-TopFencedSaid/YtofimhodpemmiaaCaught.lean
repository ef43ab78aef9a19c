/- Leases: what a panic is caught as. -/
import Derived.Test.YtofimhodpemmiaaRTry
import Derived.Test.YtofimhodpemmiaaChecked
import Derived.Tactics
import Derived.Tactics2
import Derived.RowKitTokens
import Derived.Recover
set_option maxRecDepth 100000
namespace Go.Proofs.Ytofimhodpemmiaa
open Go Go.RowKit Go.Eng
theorem caught_nil (w : World) : Calls Try.prog 26 #[.nilIface] w fun e w' => e = .returned (.int .i64 0) ∧ w' = w := by
  go_enter Try.func26, Try.ntmps26
  go_wp2
  go_ret
  exact ⟨rfl, rfl⟩
theorem caught_e (n : Int) (w : World) : Calls Try.prog 26 #[.iface 64 (.agg #[.int .i64 n])] w fun e w' => e = .returned (.int .i64 n) ∧ w' = w.alloc (.cells #[.int .i64 n] 64) := by
  have hta : ∀ (w : World), (Instr.typeAssert (.iface 64 (.agg #[.int .i64 n])) 20 64 true).run Try.prog w = .ok (.tuple #[.agg #[.int .i64 n], .bool true]) w := fun w => by
    simp only [Instr.typeAssert, Sem.run_bind, Try.runUnderlying64, Result.andThen_ok]
    rfl
  go_enter Try.func26, Try.ntmps26
  go_wp2
  go_ret
  exact ⟨rfl, rfl⟩
theorem must_true (n : Int) (w : World) : Calls Try.prog 27 #[.bool true, .int .i64 n] w fun e w' => e = .returned (.tuple #[]) ∧ w' = w := by
  go_enter Try.func27, Try.ntmps27
  go_wp2
  go_end0
  exact ⟨rfl, rfl⟩
theorem must_false (n : Int) (w : World) : Calls Try.prog 27 #[.bool false, .int .i64 n] w fun e w' => e = .panicked [{ v := .iface 64 (.agg #[.int .i64 n]), recovered := false }] ∧ w' = w := by
  go_enter Try.func27, Try.ntmps27
  go_wp2
  exact ⟨rfl, rfl, rfl⟩
theorem SimH.later {B : Nat → Prop} {w0 w w' : World} {M0 M : Mem} {h : List AObj} {ρ : Eng.Loc} (H : SimH B w0 M0 h w ρ M) (hb : Below w.heap.size w w') : SimH B w0 M0 h w' ρ M :=
  H.world (Mem.le_refl _) (fun i r hi hr => ⟨hb.block r (H.own_lt hi hr).1, fun _ h => h⟩) (fun b o v hv => by
    have := H.mem b o v hv
    rw [hb.cell (by exact World.block_lt_of_cell? w _ this)]
    exact this) (fun _ _ _ => rfl) ⟨hb.os, hb.tape, hb.output, hb.size, fun k hk => hb.block k (H.size k hk)⟩
def mustK : List AV → Option (Bool × Value)
  | [.bool b, .int .i64 n] => some (b, .iface 64 (.agg #[.int .i64 n]))
  | _ => none
noncomputable def must_fact : FactP Try.prog where
  f := 27
  K := mustK
  ent := ent_of (fn := Try.f27) (by kernel_rfl) rfl (by kernel_rfl)
  ok := fun args b pv hk => by
    unfold mustK at hk
    split at hk
    · simp only [Option.some.injEq, Prod.mk.injEq] at hk
      obtain ⟨rfl, rfl⟩ := hk
      intro B w0 M0 h w ρ M vs H hr
      rename_i b n
      match vs, hr with
      | [v1, v2], hr =>
        simp only [repL, rep, and_true] at hr
        obtain ⟨rfl, rfl⟩ := hr
        cases b
        · exact (must_false n w).mono fun e w' ⟨h1, h2⟩ => ⟨h1, M, Mem.le_refl _, h2 ▸ H⟩
        · exact (must_true n w).mono fun e w' ⟨h1, h2⟩ => ⟨h1, M, Mem.le_refl _, h2 ▸ H⟩
      | [], hr => simp [repL] at hr
      | [_], hr => simp [repL] at hr
      | _ :: _ :: _ :: _, hr => simp [repL] at hr
    · cases hk
def caughtK : List AV → List AObj → Nat → Option Out
  | [.nili], _, _ => some (.int .i64 0, [], [])
  | [.iface t (.agg [.int .i64 n])], _, _ => if t = 64 then some (.int .i64 n, [], []) else none
  | _, _, _ => none
noncomputable def caught_fact : Fact Try.prog where
  f := 26
  K := caughtK
  ent := ent_of (fn := Try.f26) (by kernel_rfl) rfl (by kernel_rfl)
  ok := fun args h nid x effs need hk _ => by
    unfold caughtK at hk
    split at hk
    · simp only [Option.some.injEq, Prod.mk.injEq] at hk
      obtain ⟨rfl, rfl, _⟩ := hk
      intro B w0 M0 h w ρ M vs H _ _ hr
      match vs, hr with
      | [v1], hr =>
        simp only [repL, rep, and_true] at hr
        obtain rfl := hr
        exact (caught_nil w).mono fun e w' ⟨h1, h2⟩ => ⟨_, ρ, M, h1, Eng.Loc.only_refl _ _, Mem.le_refl _, h2 ▸ H, by simp [rep]⟩
      | [], hr => simp [repL] at hr
      | _ :: _ :: _, hr => simp [repL] at hr
    · rename_i t n
      split at hk
      · rename_i ht
        simp only [Option.some.injEq, Prod.mk.injEq] at hk
        obtain ⟨rfl, rfl, _⟩ := hk
        subst ht
        intro B w0 M0 h w ρ M vs H _ _ hr
        match vs, hr with
        | [v1], hr =>
          simp only [repL, rep, and_true] at hr
          obtain ⟨u, rfl, us, rfl, hus⟩ := hr
          match us, hus with
          | [v], hus =>
            simp only [repL, rep, and_true] at hus
            subst hus
            exact (caught_e n w).mono fun e w' ⟨h1, h2⟩ => ⟨_, ρ, M, h1, Eng.Loc.only_refl _ _, Mem.le_refl _, h2 ▸ SimH.later H ((Below.refl _ _).alloc (Nat.le_refl _) _), by simp [rep]⟩
          | [], hus => simp [repL] at hus
          | _ :: _ :: _, hus => simp [repL] at hus
        | [], hr => simp [repL] at hr
        | _ :: _ :: _, hr => simp [repL] at hr
      · cases hk
    · cases hk
end Go.Proofs.Ytofimhodpemmiaa
