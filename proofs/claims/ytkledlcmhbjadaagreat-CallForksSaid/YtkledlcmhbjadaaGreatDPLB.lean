/- The driver, plainly: places in lists; lists of rising names. -/
import Derived.Test.YtkledlcmhbjadaaGreatDPLA
import Derived.Test.YtkledlcmhbjadaaGreatDRVols
import Derived.Test.YtkledlcmhbjadaaGreatDRDo
set_option linter.unusedVariables false
set_option linter.unusedSimpArgs false
set_option maxRecDepth 100000
namespace Go.Proofs.YtkledlcmhbjadaaGreat
open Go Go.Eng

section
variable {α : Type}
def plc (p : α → Bool) : List α → Nat → Bool × Int
 | [], _ => (false, default)
 | o :: r, i => cond (p o) (true, (i : Int)) (plc p r (i + 1))
def plcF (p : α → Bool) (l : List α) : Int := cond ((plc p l 0).1) ((plc p l 0).2) (-1 : Int)
theorem plc_at (p : α → Bool) : ∀ (l : List α) (k : Nat), ((plc p l k).1 = false ∧ ∀ x ∈ l, p x = false) ∨ ∃ i x, plc p l k = (true, ((k + i : Nat) : Int)) ∧ l[i]? = some x ∧ p x = true ∧ ∀ j y, j < i → l[j]? = some y → p y = false
 | [], k => .inl ⟨rfl, by simp⟩
 | o :: r, k => by
  unfold plc
  cases h : p o with
  | true =>
   rw [cond_true]
   exact .inr ⟨0, o, rfl, rfl, h, fun j y hj => absurd hj (by omega)⟩
  | false =>
   rw [cond_false]
   rcases plc_at p r (k + 1) with ⟨h1, h2⟩ | ⟨i, x, h1, h2, h3, h4⟩
   · exact .inl ⟨h1, by simpa [h] using h2⟩
   · refine .inr ⟨i + 1, x, by rw [h1]; congr 2; omega, h2, h3, fun j y hj hy => ?_⟩
     match j, hy with
     | 0, hy => simp at hy; rw [← hy]; exact h
     | j + 1, hy => exact h4 j y (by omega) (by simpa using hy)
theorem plcF_at [Inhabited α] (p : α → Bool) (l : List α) : (plcF p l = -1 ∧ ∀ x ∈ l, p x = false) ∨ ∃ (i : Nat) (x : α), plcF p l = (i : Int) ∧ i < l.length ∧ l[i]? = some x ∧ l.getD i default = x ∧ x ∈ l ∧ p x = true := by
 unfold plcF
 rcases plc_at p l 0 with ⟨h1, h2⟩ | ⟨i, x, h1, h2, h3, h4⟩
 · rw [h1, cond_false]; exact .inl ⟨rfl, h2⟩
 · rw [h1, cond_true]
   exact .inr ⟨i, x, by simp, (List.getElem?_eq_some_iff.1 h2).1, h2, by rw [List.getD_eq_getElem?_getD, h2]; rfl, List.mem_of_getElem? h2, h3⟩
end
theorem volLF_plc (n : BA) : ∀ (l : LV) (i : Nat), Z69 n l i = plc (fun o => decide (o.name = n)) l i
 | [], _ => rfl
 | o :: r, i => by unfold Z69 plc; rw [volLF_plc n r]
theorem snapLF_plc (n : BA) : ∀ (l : LS) (i : Nat), Z5a n l i = plc (fun o => decide (o.name = n)) l i
 | [], _ => rfl
 | o :: r, i => by unfold Z5a plc; rw [snapLF_plc n r]
theorem zoneLF_plc (n : BA) : ∀ (l : LZ) (i : Nat), Z53 n l i = plc (fun o => decide (o.name = n)) l i
 | [], _ => rfl
 | o :: r, i => by unfold Z53 plc; rw [zoneLF_plc n r]
theorem lastLF_plc (v : Int) (n : BA) : ∀ (l : LQ) (i : Nat), Z5b v n l i = plc (fun o => cond (decide ((o.c.target) = n)) ((Z4a (o.c.verb)) == (Z4a v)) false) l i
 | [], _ => rfl
 | o :: r, i => by unfold Z5b plc; rw [lastLF_plc v n r]
section
variable (b1 : LZ) (b2 : LV) (b3 : LS) (b4 : LQ)
theorem Z115 (n : BA) : (Z5 n b1 b2 b3 b4 = -1 ∧ ∀ x ∈ b2, x.name ≠ n) ∨ ∃ (i : Nat) (x : XVol), Z5 n b1 b2 b3 b4 = (i : Int) ∧ i < b2.length ∧ b2[i]? = some x ∧ b2.getD i default = x ∧ x ∈ b2 ∧ x.name = n := by
 have h := plcF_at (fun o : XVol => decide (o.name = n)) b2
 have e : Z5 n b1 b2 b3 b4 = plcF (fun o : XVol => decide (o.name = n)) b2 := by unfold Z5 plcF; rw [volLF_plc]
 rw [e]
 simpa only [decide_eq_true_eq, decide_eq_false_iff_not, ne_eq] using h
theorem snap_at (n : BA) : (Z24 n b1 b2 b3 b4 = -1 ∧ ∀ x ∈ b3, x.name ≠ n) ∨ ∃ (i : Nat) (x : XSnap), Z24 n b1 b2 b3 b4 = (i : Int) ∧ i < b3.length ∧ b3[i]? = some x ∧ b3.getD i default = x ∧ x ∈ b3 ∧ x.name = n := by
 have h := plcF_at (fun o : XSnap => decide (o.name = n)) b3
 have e : Z24 n b1 b2 b3 b4 = plcF (fun o : XSnap => decide (o.name = n)) b3 := by unfold Z24 plcF; rw [snapLF_plc]
 rw [e]
 simpa only [decide_eq_true_eq, decide_eq_false_iff_not, ne_eq] using h
theorem zone_at (n : BA) : (Z16 n b1 b2 b3 b4 = -1 ∧ ∀ x ∈ b1, x.name ≠ n) ∨ ∃ (i : Nat) (x : XZone), Z16 n b1 b2 b3 b4 = (i : Int) ∧ i < b1.length ∧ b1[i]? = some x ∧ b1.getD i default = x ∧ x ∈ b1 ∧ x.name = n := by
 have h := plcF_at (fun o : XZone => decide (o.name = n)) b1
 have e : Z16 n b1 b2 b3 b4 = plcF (fun o : XZone => decide (o.name = n)) b1 := by unfold Z16 plcF; rw [zoneLF_plc]
 rw [e]
 simpa only [decide_eq_true_eq, decide_eq_false_iff_not, ne_eq] using h
def Z7f (c : XCall) : XTgt := ⟨Z4a c.verb, c.target⟩
theorem last_at (v : Int) (n : BA) : (Z1c v n b1 b2 b3 b4 = -1 ∧ ∀ x ∈ b4, Z7f x.c ≠ ⟨Z4a v, n⟩) ∨ ∃ (i : Nat) (x : XDone), Z1c v n b1 b2 b3 b4 = (i : Int) ∧ i < b4.length ∧ b4[i]? = some x ∧ b4.getD i default = x ∧ x ∈ b4 ∧ Z7f x.c = ⟨Z4a v, n⟩ := by
 have h := plcF_at (fun o : XDone => decide (Z7f o.c = ⟨Z4a v, n⟩)) b4
 have e : Z1c v n b1 b2 b3 b4 = plcF (fun o : XDone => cond (decide ((o.c.target) = n)) ((Z4a (o.c.verb)) == (Z4a v)) false) b4 := by unfold Z1c plcF; rw [lastLF_plc]
 have key : ∀ o : XDone, (cond (decide ((o.c.target) = n)) ((Z4a (o.c.verb)) == (Z4a v)) false) = decide (Z7f o.c = ⟨Z4a v, n⟩) := by
  intro o
  rw [Bool.eq_iff_iff]
  simp only [Z7f, XTgt.mk.injEq, decide_eq_true_eq]
  by_cases h1 : o.c.target = n
  · simp [h1]
  · simp [h1]
 rw [e, funext key]
 simpa only [decide_eq_true_eq, decide_eq_false_iff_not, ne_eq] using h
end

section
variable {α κ : Type} (key : α → κ)
theorem nd_at {l : List α} (hn : (l.map key).Nodup) {i j : Nat} {x y : α} (hx : l[i]? = some x) (hy : l[j]? = some y) (e : key x = key y) : i = j := by
 have h1 : (l.map key)[i]? = some (key x) := by rw [List.getElem?_map, hx]; rfl
 have h2 : (l.map key)[j]? = some (key x) := by rw [List.getElem?_map, hy, e]; rfl
 obtain ⟨p1, q1⟩ := List.getElem?_eq_some_iff.1 h1
 obtain ⟨p2, q2⟩ := List.getElem?_eq_some_iff.1 h2
 exact (List.getElem_inj hn).1 (q1.trans q2.symm)
theorem nd_uniq {l : List α} (h : (l.map key).Nodup) {x y : α} (hx : x ∈ l) (hy : y ∈ l) (e : key x = key y) : x = y := by
 obtain ⟨i, hi⟩ := List.mem_iff_getElem?.1 hx
 obtain ⟨j, hj⟩ := List.mem_iff_getElem?.1 hy
 have := nd_at key h hi hj e
 subst this
 rw [hi] at hj
 injection hj
theorem Z16d {l : List α} {i : Nat} {x y : α} (hx : l[i]? = some x) (hk : key y = key x) : (l.set i y).map key = l.map key := by
 rw [List.map_set]
 apply List.ext_getElem?
 intro j
 rw [List.getElem?_set]
 split
 · rename_i e
   subst e
   have hi := (List.getElem?_eq_some_iff.1 hx).1
   rw [if_pos (by simpa using hi), List.getElem?_map, hx, hk]
   rfl
 · rfl
theorem Z67 {l : List α} (h : (l.map key).Nodup) {i : Nat} {x y : α} (hx : l[i]? = some x) (z : α) : z ∈ l.set i y ↔ z = y ∨ (z ∈ l ∧ key z ≠ key x) := by
 constructor
 · intro hz
   obtain ⟨j, hj⟩ := List.mem_iff_getElem?.1 hz
   rw [List.getElem?_set] at hj
   split at hj
   · split at hj
     · injection hj with hj; exact .inl hj.symm
     · cases hj
   · rename_i hne
     exact .inr ⟨List.mem_of_getElem? hj, fun e => hne (nd_at key h hx hj e.symm)⟩
 · rintro (rfl | ⟨hz, hne⟩)
   · exact List.mem_iff_getElem?.2 ⟨i, by rw [List.getElem?_set, if_pos rfl, if_pos (List.getElem?_eq_some_iff.1 hx).1]⟩
   · obtain ⟨j, hj⟩ := List.mem_iff_getElem?.1 hz
     refine List.mem_iff_getElem?.2 ⟨j, ?_⟩
     rw [List.getElem?_set, if_neg]
     · exact hj
     · rintro rfl
       rw [hx] at hj
       injection hj with hj
       exact hne (by rw [hj])
theorem cut_sub (l : List α) (i : Nat) : (l.take i ++ l.drop (i + 1)).Sublist l := by
 conv => rhs; rw [← List.take_append_drop i l]
 refine List.Sublist.append (List.Sublist.refl _) ?_
 rw [← List.drop_drop]
 exact List.drop_sublist _ _
theorem Zc8 {l : List α} (h : (l.map key).Nodup) {i : Nat} {x : α} (hx : l[i]? = some x) (z : α) : z ∈ l.take i ++ l.drop (i + 1) ↔ z ∈ l ∧ key z ≠ key x := by
 rw [List.mem_append]
 constructor
 · rintro (hz | hz)
   · obtain ⟨j, hj⟩ := List.mem_iff_getElem?.1 hz
     rw [List.getElem?_take] at hj
     split at hj
     · exact ⟨List.mem_of_getElem? hj, fun e => by have := nd_at key h hj hx e; omega⟩
     · cases hj
   · obtain ⟨j, hj⟩ := List.mem_iff_getElem?.1 hz
     rw [List.getElem?_drop] at hj
     exact ⟨List.mem_of_getElem? hj, fun e => by have := nd_at key h hj hx e; omega⟩
 · rintro ⟨hz, hne⟩
   obtain ⟨j, hj⟩ := List.mem_iff_getElem?.1 hz
   rcases Nat.lt_trichotomy j i with hlt | rfl | hgt
   · exact .inl (List.mem_iff_getElem?.2 ⟨j, by rw [List.getElem?_take, if_pos hlt]; exact hj⟩)
   · rw [hx] at hj; injection hj with hj; exact absurd (by rw [hj]) hne
   · exact .inr (List.mem_iff_getElem?.2 ⟨j - (i + 1), by rw [List.getElem?_drop, show i + 1 + (j - (i + 1)) = j from by omega]; exact hj⟩)
end
section
variable {α : Type} (key : α → BA)
theorem Z213 {l : List α} : Z79 key l ↔ Z79 id (l.map key) := by
 unfold Z79
 rw [List.pairwise_map]
 rfl
theorem rising_set {l : List α} (h : Z79 key l) {i : Nat} {x y : α} (hx : l[i]? = some x) (hk : key y = key x) : Z79 key (l.set i y) := by
 rw [Z213] at h ⊢
 rwa [Z16d key hx hk]
theorem rising_uniq {l : List α} (h : Z79 key l) {x y : α} (hx : x ∈ l) (hy : y ∈ l) (e : key x = key y) : x = y := nd_uniq key h.nodup hx hy e
def insR (x : α) : List α → List α
 | [] => [x]
 | o :: r => cond (Z46 (key x) (key o)) (x :: o :: r) (o :: insR x r)
theorem Zab (x z : α) : ∀ l : List α, z ∈ insR key x l ↔ z = x ∨ z ∈ l
 | [] => by simp [insR]
 | o :: r => by
  unfold insR
  cases Z46 (key x) (key o) with
  | true => simp
  | false =>
   simp only [cond_false, List.mem_cons, Zab x z r]
   constructor
   · rintro (h | h | h)
     · exact .inr (.inl h)
     · exact .inl h
     · exact .inr (.inr h)
   · rintro (h | h | h)
     · exact .inr (.inl h)
     · exact .inl h
     · exact .inr (.inr h)
theorem Z1c5 (x : α) : ∀ l : List α, Z79 key l → (∀ y ∈ l, key y ≠ key x) → Z79 key (insR key x l)
 | [], _, _ => by unfold insR Z79; simp
 | o :: r, h, hne => by
  have h' := List.pairwise_cons.1 h
  unfold insR
  cases h1 : Z46 (key x) (key o) with
  | true =>
   rw [cond_true]
   refine List.pairwise_cons.2 ⟨fun y hy => ?_, h⟩
   rcases List.mem_cons.1 hy with rfl | hy
   · exact h1
   · exact sl_trans h1 (h'.1 y hy)
  | false =>
   rw [cond_false]
   refine List.pairwise_cons.2 ⟨fun y hy => ?_, Z1c5 x r h'.2 fun y hy => hne y (mN hy)⟩
   rcases (Zab key x y r).1 hy with rfl | hy
   · cases h3 : Z46 (key o) (key y) with
     | true => rfl
     | false => exact absurd (sl_total h3 h1) (hne o mS)
   · exact h'.1 y hy
theorem Z1c3 (x : α) : ∀ l : List α, (insR key x l).length = l.length + 1
 | [] => rfl
 | o :: r => by
  unfold insR
  cases Z46 (key x) (key o) with
  | true => simp
  | false => simp [Z1c3 x r]
def insL (x : α) : List α → Bool → List α → Bool × List α
 | [], p, a => (p, a)
 | o :: r, p, a => cond (cond (!p) (Z46 (key x) (key o)) false) (insL x r true ((a ++ [x]) ++ [o])) (insL x r p (a ++ [o]))
theorem insL_true (x : α) : ∀ (l : List α) (a : List α), insL key x l true a = (true, a ++ l)
 | [], a => by simp [insL]
 | o :: r, a => by
  unfold insL
  simp only [Bool.not_true, cond_false]
  rw [insL_true x r]
  simp
theorem insL_spec (x : α) : ∀ (l : List α) (a : List α), cond ((insL key x l false a).1) ((insL key x l false a).2) ((insL key x l false a).2 ++ [x]) = a ++ insR key x l
 | [], a => by simp [insL, insR]
 | o :: r, a => by
  unfold insL insR
  simp only [Bool.not_false, cond_true]
  cases Z46 (key x) (key o) with
  | true =>
   simp only [cond_true]
   rw [insL_true]
   simp
  | false =>
   simp only [cond_false]
   rw [insL_spec x r]
   simp
end
end Go.Proofs.YtkledlcmhbjadaaGreat
