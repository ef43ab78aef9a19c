/- The engine, part 6: what an operation does to a state is what it does. -/
import Derived.Test.YtnfmnipckcidlaaDoorE5
set_option linter.unusedVariables false
set_option linter.unusedSimpArgs false
namespace Go.Eng
open Go.RowKit (Below)

section
variable {P : Program} {B : Nat → Prop} {w0 w : World} {M0 M : Mem} {h hr : List AObj} {ρ : Loc}

/-- No two nil values of an interface type are compared. -/
theorem run_eqGuard_of {op : BinOp} {t : TypeId} {x y : Operand} {u v : Value} (h1 : ∀ xs ys, u = .agg xs → v = .agg ys → P.eqGuardType P.depth t = false) (h2 : u ≠ .nilIface) (w : World) : (eqGuard op t x y u v).run P w = .ok () w := by
  cases u
  case nilIface => exact absurd rfl h2
  case agg xs =>
    cases v
    case agg ys => exact run_eqGuard_agg w op t x y xs ys (h1 xs ys rfl rfl)
    all_goals (have : ∀ z, eqGuard op t x y (.agg xs) z = eqGuard op t x y (.agg xs) z := fun _ => rfl; cases op <;> rfl)
  all_goals (cases op <;> rfl)

theorem run_binOp_eq {t : TypeId} {u v : Value} {r : Bool} (hn : ∀ k a, u ≠ .int k a) (hs : ∀ s, u ≠ .string s) (hf : ∀ k b, u ≠ .float k b) (hc : ∀ k a b, u ≠ .complex k a b) (he : (Op.equalIn 10000 t u v).run P w = .ok r w) :
    (binOp .eql t u v).run P w = .ok (.bool r) w ∧ (binOp .neq t u v).run P w = .ok (.bool (!r)) w := by
  cases u
  case int k a => exact absurd rfl (hn k a)
  case string s => exact absurd rfl (hs s)
  case float k b => exact absurd rfl (hf k b)
  case complex k a b => exact absurd rfl (hc k a b)
  all_goals
    constructor <;> (cases v <;> (simp only [binOp]; simp [Op.equal, Op.maxDepth, he]))

theorem eqAV_run {t : TypeId} {x y : AV} {u v : Value} {r : Bool} (he : eqAV P t x y = some r) (hu : rep ρ M noG x u) (hv : rep ρ M noG y v) (w : World) :
    (binOp .eql t u v).run P w = .ok (.bool r) w ∧ (binOp .neq t u v).run P w = .ok (.bool (!r)) w := by
  unfold eqAV at he
  split at he
  · -- structs
    rename_i xs ys
    split at he
    · cases he
    · split at he
      · rename_i fs hd
        split at he
        · cases he
        · rename_i hst
          simp only [rep] at hu hv
          obtain ⟨us, rfl, hus⟩ := hu
          obtain ⟨vs, rfl, hvs⟩ := hv
          have hfs : P.fieldsOf t = fs := by simp [Program.fieldsOf, hd]
          have := eqFs_run (eqTy_run 4) hus hvs 9999 (by omega) w _ r he
          refine run_binOp_eq (by simp) (by simp) (by simp) (by simp) ?_
          rw [show (10000 : Nat) = 9999 + 1 from rfl, run_equalIn_struct w 9999 t ⟨us⟩ ⟨vs⟩ (by rw [hfs]; exact hd) (by simpa using hst), hfs]
          exact this
      · cases he
  · split at he
    · rename_i e hd
      injection he with he
      subst he
      simp only [rep] at hu hv
      subst hu; subst hv
      refine run_binOp_eq (by simp) (by simp) (by simp) (by simp) ?_
      have : ∀ n, (Op.equalIn (n + 1) t (.pointer none) (.pointer none)).run P w = .ok true w := fun n => by simp [Op.equalIn, run_underlying hd]
      exact this 9999
    · cases he
  · split at he
    · rename_i e hd
      injection he with he
      subst he
      simp only [rep] at hu hv
      obtain ⟨r, _, rfl⟩ := hu
      subst hv
      refine run_binOp_eq (by simp) (by simp) (by simp) (by simp) ?_
      rename_i o' _
      have : ∀ n a, (Op.equalIn (n + 1) t (.pointer (some a)) (.pointer none)).run P w = .ok false w := fun n a => by simp [Op.equalIn, run_underlying hd]
      exact this 9999 _
    · cases he
  · split at he
    · rename_i a b hd
      injection he with he
      subst he
      simp only [rep] at hu hv
      subst hu; subst hv
      refine run_binOp_eq (by simp) (by simp) (by simp) (by simp) ?_
      exact run_equalIn_bool' w 9999 t _ _ hd
    · cases he
  · split at he
    · rename_i hkk
      injection he with he
      subst hkk
      subst he
      simp only [rep] at hu hv
      subst hu; subst hv
      rename_i k a b
      rw [binOp_eql, binOp_neq]
      exact ⟨rfl, rfl⟩
    · cases he
  · injection he with he
    subst he
    simp only [rep] at hu hv
    subst hu; subst hv
    rw [← toList_inj]
    exact ⟨rfl, rfl⟩
  · cases he

theorem evBin_run {op : BinOp} {t : TypeId} {x y z : AV} {need : List Prop} {u v : Value} {p q : Operand} (he : evBin P op t x y = some (z, need)) (hneed : ∀ r ∈ need, r) (hu : rep ρ M noG x u) (hv : rep ρ M noG y v) (w : World) :
    ∃ r, (do eqGuard op t p q u v; binOp op t u v : Sem Value).run P w = .ok r w ∧ rep ρ M noG z r := by
  have hx : u ≠ .nilIface → (P.eqGuardType P.depth t = false ∨ (∀ xs, u ≠ .agg xs) ∨ (op ≠ .eql ∧ op ≠ .neq)) → ∀ s, (do eqGuard op t p q u v; s : Sem Value).run P w = s.run P w := by
    intro h1 h2 s
    simp only [Sem.run_bind]
    rcases h2 with h2 | h2 | h2
    · rw [run_eqGuard_of (fun _ _ _ _ => h2) h1]; rfl
    · rw [run_eqGuard_of (fun xs _ e _ => absurd e (h2 xs)) h1]; rfl
    · have : eqGuard op t p q u v = pure () := by cases op <;> first | rfl | exact absurd rfl h2.1 | exact absurd rfl h2.2
      rw [this]; rfl
  unfold evBin at he
  split at he
  all_goals first
    | ( -- numbers
       split at he
       · rename_i hkk
         simp only [Option.some.injEq, Prod.mk.injEq] at he
         obtain ⟨rfl, rfl⟩ := he
         subst hkk
         simp only [rep] at hu hv
         subst hu; subst hv
         rw [hx (by simp) (.inr (.inl (by simp)))]
         first
           | (rw [binOp_quo]; simp only [Op.intDiv, if_neg (hneed _ (List.mem_singleton_self _)), Sem.run_pure]; exact ⟨_, rfl, by simp [rep]⟩)
           | (rw [binOp_rem]; simp only [Op.intDiv, if_neg (hneed _ (List.mem_singleton_self _)), Sem.run_pure]; exact ⟨_, rfl, by simp [rep]⟩)
           | (simp only [binOp_add, binOp_sub, binOp_mul, binOp_lss, binOp_leq, binOp_gtr, binOp_geq, Op.intArith, Sem.run_pure]; exact ⟨_, rfl, by simp [rep]⟩)
       · cases he)
    | ( -- texts
       simp only [Option.some.injEq, Prod.mk.injEq] at he
       obtain ⟨rfl, rfl⟩ := he
       simp only [rep] at hu hv
       subst hu; subst hv
       rw [hx (by simp) (.inr (.inl (by simp)))]
       simp only [binOp, Op.stringOp, Sem.run_pure]
       refine ⟨_, rfl, ?_⟩
       simp only [rep, strLess, toList_inj])
    | (simp only [Option.some.injEq, Prod.mk.injEq] at he
       obtain ⟨rfl, rfl⟩ := he
       simp only [rep] at hu hv
       subst hu; subst hv
       rw [hx (by simp) (.inr (.inl (by simp)))]
       rename_i a b
       have hsz : ¬ (((a.size + b.size : Nat) : Int) > IntKind.i64.max) := by rw [IntKind.max_i64]; have := hneed _ (List.mem_singleton_self _); omega
       simp only [binOp, Op.stringOp, hsz, if_false, Sem.run_pure]
       exact ⟨_, rfl, by simp [rep]⟩)
    | skip
  case h_17 => cases he
  all_goals
    cases hb : eqAV P t x y with
    | none => rw [hb] at he; cases he
    | some b =>
      rw [hb] at he
      simp only [Option.map_some, Option.some.injEq, Prod.mk.injEq] at he
      obtain ⟨rfl, rfl⟩ := he
      have hr := eqAV_run hb hu hv w
      have hu1 : u ≠ .nilIface ∧ (P.eqGuardType P.depth t = false ∨ (∀ xs, u ≠ .agg xs)) := by
        unfold eqAV at hb
        split at hb
        · split at hb
          · cases hb
          · rename_i hg
            simp only [rep] at hu
            obtain ⟨us, rfl, _⟩ := hu
            exact ⟨by simp, .inl (by simpa using hg)⟩
        all_goals first
          | (simp only [rep] at hu; subst hu; exact ⟨by simp, .inr (by simp)⟩)
          | (simp only [rep] at hu; obtain ⟨r, _, rfl⟩ := hu; exact ⟨by simp, .inr (by simp)⟩)
          | cases hb
      rw [hx hu1.1 (hu1.2.imp id .inl)]
      first
        | exact ⟨_, hr.1, by simp [rep]⟩
        | exact ⟨_, hr.2, by simp [rep]⟩
end

section
variable {E : Env} {B : Nat → Prop} {w0 w : World} {M0 M : Mem} {h hr : List AObj} {ρ : Loc} {t : List AV} {a : Act}

theorem fill_run {pl : List (Nat × Nat)} : ∀ (ps : List (Nat × AV)) (us : List (Nat × Value)) (z : List AV) (zs : List Value) (cs : List AV), fillAV pl z ps = some cs → repL ρ M noG z zs → ps.length = us.length →
    (∀ (j : Nat) (p : Nat × AV) (u : Nat × Value), ps[j]? = some p → us[j]? = some u → p.1 = u.1 ∧ repL ρ M noG p.2.cells u.2.cells.toList) → ∃ vs, Instr.fill (fun i => pl[i]?) ⟨zs⟩ us = some ⟨vs⟩ ∧ repL ρ M noG cs vs
  | [], [], z, zs, cs, h, hz, _, _ => by
    simp only [fillAV, Option.some.injEq] at h
    subst h
    exact ⟨zs, rfl, hz⟩
  | p :: ps, u :: us, z, zs, cs, h, hz, hl, hp => by
    obtain ⟨e1, hc⟩ := hp 0 p u rfl rfl
    obtain ⟨pi, px⟩ := p
    obtain ⟨ui, uv⟩ := u
    simp only at e1 hc
    subst e1
    simp only [fillAV] at h
    cases hpl : pl[pi]? with
    | none => rw [hpl] at h; cases h
    | some on =>
      obtain ⟨off, n⟩ := on
      rw [hpl] at h
      simp only [] at h
      split at h
      · rename_i hcond
        obtain ⟨hn, hle⟩ := hcond
        have hlc := repL_length hc
        have hlz := repL_length hz
        have hsize : uv.cells.size = n := by rw [← hn, hlc]; simp
        have hfold : (uv.cells.zipIdx.foldl (fun cs (x : Value × Nat) => cs.setIfInBounds (off + x.2) x.1) (⟨zs⟩ : Array Value)) = ⟨spliceV zs off uv.cells.toList⟩ := by
          have key : ∀ (us : List Value) (zs : List Value) (k : Nat), off + k + us.length ≤ zs.length → ((us.zipIdx k).foldl (fun cs (x : Value × Nat) => cs.setIfInBounds (off + x.2) x.1) (⟨zs⟩ : Array Value)) = ⟨spliceV zs (off + k) us⟩ := by
            intro us
            induction us with
            | nil => intro zs k _; simp [splice_nil]
            | cons u us ih =>
              intro zs k hk
              simp only [List.zipIdx_cons, List.foldl_cons]
              have : (⟨zs⟩ : Array Value).setIfInBounds (off + k) u = ⟨zs.set (off + k) u⟩ := by simp
              rw [this, ih (zs.set (off + k) u) (k + 1) (by simp at hk ⊢; omega), show off + (k + 1) = (off + k) + 1 from by omega, splice_set _ _ _ _ (by simp at hk; omega)]
          have := key uv.cells.toList zs 0 (by rw [← hlc, hn, ← hlz]; simpa using hle)
          rw [← Array.foldl_toList, Array.toList_zipIdx]
          exact this
        simp only [Instr.fill, hpl, hsize, ne_eq, not_true_eq_false, decide_false, Bool.false_or]
        have hsz : (decide (off + n > (⟨zs⟩ : Array Value).size)) = false := by simp; rw [← hlz]; exact hle
        simp only [hsz, Bool.false_eq_true, if_false]
        rw [hfold]
        exact fill_run ps us _ _ cs h (repL_splice off hz hc) (by simpa using hl) (fun j p' u' h1 h2 => hp (j + 1) p' u' (by simpa using h1) (by simpa using h2))
      · cases h
  | [], _ :: _, _, _, _, _, _, hl, _ => by simp at hl
  | _ :: _, [], _, _, _, _, _, hl, _ => by simp at hl
end
end Go.Eng
