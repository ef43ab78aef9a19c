/- The driver, plainly: the law TopNumbers, its loop. -/
import Derived.Test.YtpffbkbadnhmmaaDNumF
set_option linter.unusedVariables false
set_option linter.unusedSimpArgs false
set_option maxRecDepth 100000
namespace Go.Proofs.Ytpffbkbadnhmmaa
open Go Go.Eng
theorem num_test {l : List Int} {i : Nat} (h : cond (decide ((i : Int) < (l.length : Int))) (decide ((i : Int) < (60 : Int))) false = true) : i < l.length ∧ i < 60 := by
 cases h' : decide ((i : Int) < (l.length : Int)) with
 | false => rw [h'] at h; cases h
 | true =>
  rw [h'] at h
  simp only [cond_true, decide_eq_true_eq] at h h'
  omega
abbrev numZ : List XZone := [(⟨(⟨#[97]⟩ : ByteArray), (9 : Int)⟩ : XZone)]
abbrev numC : XCall := ⟨(1 : Int), (⟨#[118]⟩ : ByteArray), (1 : Int), (3 : Int), (⟨#[97]⟩ : ByteArray), (⟨#[]⟩ : ByteArray), (⟨#[]⟩ : ByteArray)⟩
theorem num_zv : ZV [(⟨(⟨#[97]⟩ : ByteArray), (9 : Int)⟩ : XZone)] := by
 have na : object_NameF (⟨#[97]⟩ : ByteArray) = true := by kernel_rfl
 refine ⟨by simp, by simp, fun x hx => ?_, by simp⟩
 rw [List.mem_singleton.1 hx]
 exact ⟨na, by decide, by decide⟩
theorem num_names : ∀ z ∈ [(⟨(⟨#[97]⟩ : ByteArray), (9 : Int)⟩ : XZone)], z.name.size < 4611686018427387904 := fun z hz => by rw [List.mem_singleton.1 hz]; decide
theorem num_cs (v n s : Int) {z o : ByteArray} (hz : z.size < 4611686018427387904) (ho : o.size < 4611686018427387904) : CS ⟨v, (⟨#[118]⟩ : ByteArray), n, s, z, o, (⟨#[]⟩ : ByteArray)⟩ := ⟨show (⟨#[118]⟩ : ByteArray).size < _ by decide, hz, ho, show (⟨#[]⟩ : ByteArray).size < _ by decide⟩
theorem vb_empty : VB [] := ⟨⟨by simp, fun k hk => by cases hk⟩, fun e he => by cases he⟩
theorem numL_vb (a0 : List Int) : ∀ (n : Nat) (v1 : Int) (i : Nat) (b1 : List (ByteArray × Int)) (b2 : List (ByteArray × XVn)) (b3 : List (ByteArray × XSn)) (b4 : List (XTgt × XDone)) (z : List XZone) (v : List XVol) (s : List XSnap) (q : List XDone) (k : Nat), k + n ≤ 1000 → IV k b1 b2 b3 b4 z v s q →
  VB (t_TopNumbersLF a0 n v1 i b1 b2 b3 b4).2.2.2.1
 | 0, v1, i, b1, b2, b3, b4, z, v, s, q, k, hk, h => vb_empty
 | n + 1, v1, i, b1, b2, b3, b4, z, v, s, q, k, hk, h => by
  unfold t_TopNumbersLF
  have hd := fun c => (iv_do h c).2
  repeat' (first
   | refine bd_cond (P := fun x : Bool × Int × List (ByteArray × Int) × List (ByteArray × XVn) × List (ByteArray × XSn) × List (XTgt × XDone) => VB x.2.2.2.1) (fun _ => ?_) (fun _ => ?_)
   | exact numL_vb a0 n _ _ _ _ _ _ _ _ _ _ (k + 1) (by omega) (hd _)
   | exact iv_vb (h.mono (by omega))
   | exact vb_empty)
theorem num_vb (a0 : List Int) : VB (t_TopNumbersLF a0 (60 + 1) (1 : Int) 0 (dD_DoF numC (driver_NewF numZ).2.1 (driver_NewF numZ).2.2.1 (driver_NewF numZ).2.2.2.1 (driver_NewF numZ).2.2.2.2).2.1 (dD_DoF numC (driver_NewF numZ).2.1 (driver_NewF numZ).2.2.1 (driver_NewF numZ).2.2.2.1 (driver_NewF numZ).2.2.2.2).2.2.1 (dD_DoF numC (driver_NewF numZ).2.1 (driver_NewF numZ).2.2.1 (driver_NewF numZ).2.2.2.1 (driver_NewF numZ).2.2.2.2).2.2.2.1 (dD_DoF numC (driver_NewF numZ).2.1 (driver_NewF numZ).2.2.1 (driver_NewF numZ).2.2.2.1 (driver_NewF numZ).2.2.2.2).2.2.2.2).2.2.2.1 :=
 numL_vb a0 61 1 0 _ _ _ _ _ _ _ _ 1 (by omega) (iv_do (new_iv num_zv) numC).2
def cmN (n : Int) : XCall := ⟨cond ((n.tmod 2) == 0) 4 3, (⟨#[118]⟩ : ByteArray), n, 0, (⟨#[]⟩ : ByteArray), (⟨#[110]⟩ : ByteArray), (⟨#[]⟩ : ByteArray)⟩
def stZ : List XZone := [⟨(⟨#[97]⟩ : ByteArray), 6⟩]
def stV (m : Int) : List XVol := [⟨(⟨#[118]⟩ : ByteArray), 3, (⟨#[97]⟩ : ByteArray), 0, cond ((m.tmod 2 == 1) && decide (m > 1)) [(⟨#[110]⟩ : ByteArray)] []⟩]
def stQ (m : Int) : List XDone := [cond (m == 1) ⟨numC, ⟨0, 3, (⟨#[97]⟩ : ByteArray), 0⟩⟩ ⟨cmN m, default⟩]
def nxt (m n : Int) : Int := cond (decide (n > m)) n m
theorem num_start : rD_DoF numC (r10_NewF numZ).2.1 (r10_NewF numZ).2.2.1 (r10_NewF numZ).2.2.2.1 (r10_NewF numZ).2.2.2.2 = (⟨0, 3, (⟨#[97]⟩ : ByteArray), 0⟩, stZ, stV 1, [], stQ 1) := by kernel_rfl
theorem num_step {m n : Int} (hm : 1 ≤ m ∧ m ≤ 9) (hn : 2 ≤ n ∧ n ≤ 9) : rD_DoF (cmN n) stZ (stV m) [] (stQ m) = (cond (decide (n < m)) ⟨9, 0, (⟨#[]⟩ : ByteArray), 0⟩ default, stZ, stV (nxt m n), [], stQ (nxt m n)) := by
 have h1 : m = 1 ∨ m = 2 ∨ m = 3 ∨ m = 4 ∨ m = 5 ∨ m = 6 ∨ m = 7 ∨ m = 8 ∨ m = 9 := by omega
 have h2 : n = 2 ∨ n = 3 ∨ n = 4 ∨ n = 5 ∨ n = 6 ∨ n = 7 ∨ n = 8 ∨ n = 9 := by omega
 rcases h1 with rfl | rfl | rfl | rfl | rfl | rfl | rfl | rfl | rfl <;> rcases h2 with rfl | rfl | rfl | rfl | rfl | rfl | rfl | rfl <;> (refine Eq.trans ?_ (Eq.refl _); kernel_rfl)
theorem num_seen {m : Int} (hm : 1 ≤ m ∧ m ≤ 9) : rD_SeenF 3 (⟨#[118]⟩ : ByteArray) stZ (stV m) [] (stQ m) = m := by
 have h1 : m = 1 ∨ m = 2 ∨ m = 3 ∨ m = 4 ∨ m = 5 ∨ m = 6 ∨ m = 7 ∨ m = 8 ∨ m = 9 := by omega
 rcases h1 with rfl | rfl | rfl | rfl | rfl | rfl | rfl | rfl | rfl <;> (refine Eq.trans ?_ (Eq.refl _); kernel_rfl)
theorem num_of {x : Int} (h : 0 ≤ x ∧ x ≤ 255) : 2 ≤ IntKind.u64.wrap (IntKind.u64.wrap (x.tmod 8) + 2) ∧ IntKind.u64.wrap (IntKind.u64.wrap (x.tmod 8) + 2) ≤ 9 := by
 have h1 : x.tmod 8 = x % 8 := Int.tmod_eq_emod_of_nonneg h.1
 rw [h1, IntKind.wrap_u64, IntKind.wrap_u64]
 omega
theorem numL_ok (a0 : List Int) (ha : ∀ x ∈ a0, 0 ≤ x ∧ x ≤ 255) : ∀ (n : Nat) (m : Int) (i : Nat) (b1 : List (ByteArray × Int)) (b2 : List (ByteArray × XVn)) (b3 : List (ByteArray × XSn)) (b4 : List (XTgt × XDone)), i + n = 60 → (1 ≤ m ∧ m ≤ 9) → IV (i + 1) b1 b2 b3 b4 stZ (stV m) [] (stQ m) →
  ∃ m' b1' b2' b3' b4', t_TopNumbersLF a0 (n + 1) m i b1 b2 b3 b4 = (false, m', b1', b2', b3', b4') ∧ (1 ≤ m' ∧ m' ≤ 9) ∧ IV 100 b1' b2' b3' b4' stZ (stV m') [] (stQ m') := by
 intro n
 induction n with
 | zero =>
  intro m i b1 b2 b3 b4 hi hm h
  unfold t_TopNumbersLF
  have : cond (decide ((i : Int) < (a0.length : Int))) (decide ((i : Int) < (60 : Int))) false = false := by
   rw [decide_eq_false (by omega : ¬ (i : Int) < 60)]
   cases decide ((i : Int) < (a0.length : Int)) <;> rfl
  rw [this]
  exact ⟨_, _, _, _, _, rfl, hm, h.mono (by omega)⟩
 | succ n ih =>
  intro m i b1 b2 b3 b4 hi hm h
  rw [t_TopNumbersLF]
  cases hc : cond (decide ((i : Int) < (a0.length : Int))) (decide ((i : Int) < (60 : Int))) false with
  | false => exact ⟨_, _, _, _, _, rfl, hm, h.mono (by omega)⟩
  | true =>
   have hlt : i < a0.length := by
    cases h' : decide ((i : Int) < (a0.length : Int)) with
    | false => rw [h'] at hc; cases hc
    | true => have := of_decide_eq_true h'; omega
   have hN := num_of (ha (a0.getD i default) (by rw [List.getD_eq_getElem?_getD, List.getElem?_eq_getElem hlt]; exact List.getElem_mem hlt))
   generalize IntKind.u64.wrap (IntKind.u64.wrap ((a0.getD i default).tmod 8) + 2) = N at hN
   have hs := num_step hm hN
   obtain ⟨hr, h'⟩ := iv_do h (cmN N)
   rw [hs] at hr h'
   have hnx : 1 ≤ nxt m N ∧ nxt m N ≤ 9 := by
    unfold nxt
    cases decide (N > m) <;> simp only [cond_true, cond_false] <;> omega
   have hrec := ih (nxt m N) (i + 1) _ _ _ _ (by omega) hnx (h'.mono (by omega))
   have he : (((dD_DoF (cmN N) b1 b2 b3 b4).1.err == 9) == decide (N < m)) = true := by
    rw [hr]
    cases decide (N < m) <;> rfl
   have hrec' : ∃ m' b1' b2' b3' b4', cond (decide (N > m)) (t_TopNumbersLF a0 (n + 1) N (i + 1) (dD_DoF (cmN N) b1 b2 b3 b4).2.1 (dD_DoF (cmN N) b1 b2 b3 b4).2.2.1 (dD_DoF (cmN N) b1 b2 b3 b4).2.2.2.1 (dD_DoF (cmN N) b1 b2 b3 b4).2.2.2.2)
     (t_TopNumbersLF a0 (n + 1) m (i + 1) (dD_DoF (cmN N) b1 b2 b3 b4).2.1 (dD_DoF (cmN N) b1 b2 b3 b4).2.2.1 (dD_DoF (cmN N) b1 b2 b3 b4).2.2.2.1 (dD_DoF (cmN N) b1 b2 b3 b4).2.2.2.2) = (false, m', b1', b2', b3', b4') ∧ (1 ≤ m' ∧ m' ≤ 9) ∧ IV 100 b1' b2' b3' b4' stZ (stV m') [] (stQ m') := by
    unfold nxt at hrec
    cases hd : decide (N > m) with
    | true => rw [hd] at hrec; exact hrec
    | false => rw [hd] at hrec; exact hrec
   simp only [cond_true]
   cases hp : (N.tmod 2 == 0) with
   | true =>
    have hcm : cmN N = ⟨4, (⟨#[118]⟩ : ByteArray), N, 0, (⟨#[]⟩ : ByteArray), (⟨#[110]⟩ : ByteArray), (⟨#[]⟩ : ByteArray)⟩ := by unfold cmN; rw [hp]; rfl
    rw [hcm] at he hrec'
    simp only [cond_true]
    rw [he]
    exact hrec'
   | false =>
    have hcm : cmN N = ⟨3, (⟨#[118]⟩ : ByteArray), N, 0, (⟨#[]⟩ : ByteArray), (⟨#[110]⟩ : ByteArray), (⟨#[]⟩ : ByteArray)⟩ := by unfold cmN; rw [hp]; rfl
    rw [hcm] at he hrec'
    simp only [cond_false]
    rw [he]
    exact hrec'
end Go.Proofs.Ytpffbkbadnhmmaa
