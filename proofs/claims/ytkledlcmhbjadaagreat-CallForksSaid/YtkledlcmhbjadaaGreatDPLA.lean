/- The driver, plainly: lists of pairs as maps; sorted names. -/
import Derived.Test.YtkledlcmhbjadaaGreatDSorted
set_option linter.unusedVariables false
set_option linter.unusedSimpArgs false
set_option maxRecDepth 100000
namespace Go.Proofs.YtkledlcmhbjadaaGreat
open Go Go.Eng

section
variable {α β : Type} [DecidableEq α]
def aget (es : List (α × β)) (x : α) : Option β := match es with
 | [] => none
 | e :: r => if x = e.1 then some e.2 else aget r x
def aset (es : List (α × β)) (x : α) (y : β) : List (α × β) := match es with
 | [] => [(x, y)]
 | e :: r => if x = e.1 then (x, y) :: r else e :: aset r x y
def adel (es : List (α × β)) (x : α) : List (α × β) := match es with
 | [] => []
 | e :: r => if x = e.1 then r else e :: adel r x
def amod (es : List (α × β)) (x : α) (f : β → β) : List (α × β) := match es with
 | [] => []
 | e :: r => if x = e.1 then (e.1, f e.2) :: r else e :: amod r x f
theorem Z52 (es : List (α × β)) (x : α) (y : β) (z : α) : aget (aset es x y) z = if x = z then some y else aget es z := by
 induction es with
 | nil => simp only [aset, aget, eq_comm]
 | cons e r ih =>
  simp only [aset]
  split
  · rename_i h
    simp only [aget]
    by_cases hz : x = z
    · subst hz; simp
    · rw [if_neg (Ne.symm hz), if_neg hz, if_neg (by rw [← h]; exact Ne.symm hz)]
  · rename_i h
    simp only [aget, ih]
    by_cases hz : z = e.1
    · rw [if_pos hz, if_neg (by rw [hz]; exact h), if_pos hz]
    · rw [if_neg hz, if_neg hz]
theorem aget_mem {es : List (α × β)} {x : α} {y : β} (h : aget es x = some y) : (x, y) ∈ es := by
 induction es with
 | nil => simp [aget] at h
 | cons e r ih =>
  simp only [aget] at h
  split at h
  · rename_i hx; injection h with h; subst h; subst hx; exact mS
  · exact mN (ih h)
theorem aget_none {es : List (α × β)} {x : α} : aget es x = none ↔ x ∉ es.map Prod.fst := by
 induction es with
 | nil => simp [aget]
 | cons e r ih =>
  simp only [aget, List.map_cons, List.mem_cons, not_or]
  split
  · rename_i h; simp [h]
  · rename_i h; rw [ih]; simp [h]
theorem Z74 {es : List (α × β)} {x : α} : (aget es x).isSome = true ↔ x ∈ es.map Prod.fst := by
 have := aget_none (es := es) (x := x)
 cases h : aget es x with
 | none => simp [this.1 h]
 | some y =>
  simp only [Option.isSome_some, true_iff]
  by_cases hm : x ∈ es.map Prod.fst
  · exact hm
  · rw [this.2 hm] at h; cases h
theorem aget_of_mem {es : List (α × β)} (hn : (es.map Prod.fst).Nodup) {x : α} {y : β} (h : (x, y) ∈ es) : aget es x = some y := by
 induction es with
 | nil => cases h
 | cons e r ih =>
  simp only [List.map_cons, List.nodup_cons] at hn
  simp only [aget]
  rcases List.mem_cons.1 h with h | h
  · rw [← h, if_pos rfl]
  · rw [if_neg, ih hn.2 h]
    rintro rfl
    exact hn.1 (List.mem_map.2 ⟨_, h, rfl⟩)
theorem Z184 {es : List (α × β)} (hn : (es.map Prod.fst).Nodup) (x z : α) : aget (adel es x) z = if x = z then none else aget es z := by
 induction es with
 | nil => simp [adel, aget]
 | cons e r ih =>
  simp only [List.map_cons, List.nodup_cons] at hn
  simp only [adel]
  split
  · rename_i h
    simp only [aget]
    by_cases hz : x = z
    · subst hz; rw [if_pos rfl]; rw [← h] at hn; exact aget_none.2 hn.1
    · rw [if_neg hz, if_neg (by rw [← h]; exact Ne.symm hz)]
  · rename_i h
    simp only [aget, ih hn.2]
    by_cases hz : z = e.1
    · rw [if_pos hz, if_neg (by rw [hz]; exact h), if_pos hz]
    · rw [if_neg hz, if_neg hz]
theorem keys_aset (es : List (α × β)) (x : α) (y : β) : (aset es x y).map Prod.fst = if x ∈ es.map Prod.fst then es.map Prod.fst else es.map Prod.fst ++ [x] := by
 induction es with
 | nil => simp [aset]
 | cons e r ih =>
  simp only [aset]
  split
  · rename_i h; simp [h]
  · rename_i h
    simp only [List.map_cons, ih, List.mem_cons, h, false_or]
    split <;> simp
theorem Zb2 {es : List (α × β)} (hn : (es.map Prod.fst).Nodup) (x : α) (y : β) : ((aset es x y).map Prod.fst).Nodup := by
 rw [keys_aset]
 split
 · exact hn
 · rename_i h
   rw [List.nodup_append]
   exact ⟨hn, by simp, fun a ha b hb => by rw [List.mem_singleton.1 hb]; rintro rfl; exact h ha⟩
theorem adel_sub (es : List (α × β)) (x : α) : (adel es x).Sublist es := by
 induction es with
 | nil => exact List.Sublist.refl _
 | cons e r ih =>
  simp only [adel]
  split
  · exact List.sublist_cons_self _ _
  · exact ih.cons_cons _
theorem Z21f {es : List (α × β)} (hn : (es.map Prod.fst).Nodup) (x : α) : ((adel es x).map Prod.fst).Nodup := ((adel_sub es x).map _).nodup hn
theorem aget_amod (es : List (α × β)) (x : α) (f : β → β) (z : α) : aget (amod es x f) z = if x = z then (aget es z).map f else aget es z := by
 induction es with
 | nil => simp [amod, aget]
 | cons e r ih =>
  simp only [amod]
  split
  · rename_i h
    simp only [aget]
    by_cases hz : x = z
    · subst hz; rw [if_pos h, if_pos rfl, if_pos h]; rfl
    · rw [if_neg hz, if_neg (by rw [← h]; exact Ne.symm hz), if_neg (by rw [← h]; exact Ne.symm hz)]
  · rename_i h
    simp only [aget, ih]
    by_cases hz : z = e.1
    · rw [if_pos hz, if_neg (by rw [hz]; exact h), if_pos hz]
    · rw [if_neg hz, if_neg hz]
theorem keys_amod (es : List (α × β)) (x : α) (f : β → β) : (amod es x f).map Prod.fst = es.map Prod.fst := by
 induction es with
 | nil => rfl
 | cons e r ih =>
  simp only [amod]
  split
  · rfl
  · simp [ih]
theorem Z13c {γ : Type} {es : List (α × β)} {fs : List (α × γ)} (h1 : (es.map Prod.fst).Nodup) (h2 : (fs.map Prod.fst).Nodup) (h : ∀ x, (aget es x).isSome = (aget fs x).isSome) : es.length = fs.length := by
 have hp : (es.map Prod.fst).Perm (fs.map Prod.fst) := by
  rw [List.perm_ext_iff_of_nodup h1 h2]
  intro x
  rw [← Z74, ← Z74, h x]
 simpa using hp.length_eq
end
instance : DecidableEq XTgt := fun a b => match a, b with
 | ⟨s, n⟩, ⟨s', n'⟩ => if h : s = s' ∧ n = n' then .isTrue (by rw [h.1, h.2]) else .isFalse fun e => h (by injection e with e1 e2; exact ⟨e1, e2⟩)
theorem Ze4 {v : Kind} (es : List (BA × v.Ty)) (x : BA) : mget (k := .str) (v := v) es x = aget es x := by
 induction es with
 | nil => rfl
 | cons e r ih => simp only [mget, aget, Kind.eqb, decide_eq_true_eq, ih]
theorem Z13b {v : Kind} (es : List (BA × v.Ty)) (x : BA) (y : v.Ty) : mset (k := .str) (v := v) es x y = aset es x y := by
 induction es with
 | nil => rfl
 | cons e r ih => simp only [mset, aset, Kind.eqb, decide_eq_true_eq, ih]
theorem mdel_str {v : Kind} (es : List (BA × v.Ty)) (x : BA) : mdel (k := .str) (v := v) es x = adel es x := by
 induction es with
 | nil => rfl
 | cons e r ih => simp only [mdel, adel, Kind.eqb, decide_eq_true_eq, ih]
theorem Zcd (es : LB) (x : BA) : vget es x = aget es x := by
 induction es with
 | nil => rfl
 | cons e r ih => simp only [vget, aget, Kind.eqb, decide_eq_true_eq, ih]
theorem vset_str (es : LB) (x : BA) (y : XVn) : vset es x y = aset es x y := by
 induction es with
 | nil => rfl
 | cons e r ih => simp only [vset, aset, Kind.eqb, decide_eq_true_eq, ih]
theorem vdel_str (es : LB) (x : BA) : vdel es x = adel es x := by
 induction es with
 | nil => rfl
 | cons e r ih => simp only [vdel, adel, Kind.eqb, decide_eq_true_eq, ih]
theorem vmod_str (es : LB) (x : BA) (f : List (BA × Bool) → List (BA × Bool)) : vmod es x f = amod es x fun v => { v with nodes := f v.nodes } := by
 induction es with
 | nil => rfl
 | cons e r ih => simp only [vmod, amod, Kind.eqb, decide_eq_true_eq, ih]
theorem eqb_tgt (x y : XTgt) : Kind.eqb .tgt x y = decide (x = y) := by
 obtain ⟨s, n⟩ := x
 obtain ⟨s', n'⟩ := y
 simp only [Kind.eqb, XTgt.mk.injEq]
 rw [Bool.eq_iff_iff]
 simp
theorem mget_tgt {v : Kind} (es : List (XTgt × v.Ty)) (x : XTgt) : mget (k := .tgt) (v := v) es x = aget es x := by
 induction es with
 | nil => rfl
 | cons e r ih => simp only [mget, aget, eqb_tgt, decide_eq_true_eq, ih]
theorem mset_tgt {v : Kind} (es : List (XTgt × v.Ty)) (x : XTgt) (y : v.Ty) : mset (k := .tgt) (v := v) es x y = aset es x y := by
 induction es with
 | nil => rfl
 | cons e r ih => simp only [mset, aset, eqb_tgt, decide_eq_true_eq, ih]

theorem bl_irrefl : ∀ l : List UInt8, Op.bytesLess l l = false
 | [] => rfl
 | a :: l => by
  have h := bl_irrefl l
  unfold Op.bytesLess
  rw [h]
  simp
theorem bl_trans : ∀ x y z : List UInt8, Op.bytesLess x y = true → Op.bytesLess y z = true → Op.bytesLess x z = true
 | _, [], _, h, _ => by unfold Op.bytesLess at h; simp at h
 | _, _ :: _, [], _, h => by unfold Op.bytesLess at h; simp at h
 | [], _ :: _, _ :: _, _, _ => rfl
 | a :: x, b :: y, c :: z, h1, h2 => by
  unfold Op.bytesLess at h1 h2 ⊢
  simp only [Bool.or_eq_true, decide_eq_true_eq, Bool.and_eq_true, beq_iff_eq, UInt8.lt_iff_toNat_lt] at h1 h2 ⊢
  rcases h1 with h1 | ⟨rfl, h1⟩
  · rcases h2 with h2 | ⟨rfl, h2⟩
    · exact .inl (by omega)
    · exact .inl h1
  · rcases h2 with h2 | ⟨rfl, h2⟩
    · exact .inl h2
    · exact .inr ⟨rfl, bl_trans x y z h1 h2⟩
theorem bl_total : ∀ x y : List UInt8, Op.bytesLess x y = false → Op.bytesLess y x = false → x = y
 | [], [], _, _ => rfl
 | [], _ :: _, h, _ => by unfold Op.bytesLess at h; simp at h
 | _ :: _, [], _, h => by unfold Op.bytesLess at h; simp at h
 | a :: x, b :: y, h1, h2 => by
  unfold Op.bytesLess at h1 h2
  simp only [Bool.or_eq_false_iff, decide_eq_false_iff_not, Bool.and_eq_false_iff, beq_eq_false_iff_ne, UInt8.lt_iff_toNat_lt] at h1 h2
  have hab : a = b := UInt8.toNat_inj.1 (by omega)
  subst hab
  rw [bl_total x y (h1.2.resolve_left (fun h => h rfl)) (h2.2.resolve_left (fun h => h rfl))]
theorem Z1d8 (a : BA) : Z46 a a = false := bl_irrefl _
theorem sl_trans {a b c : BA} (h1 : Z46 a b = true) (h2 : Z46 b c = true) : Z46 a c = true := bl_trans _ _ _ h1 h2
theorem sl_total {a b : BA} (h1 : Z46 a b = false) (h2 : Z46 b a = false) : a = b := by
 have h := toList_inj (a := a) (b := b)
 rw [bl_total _ _ h1 h2, beq_self_eq_true] at h
 exact of_decide_eq_true h.symm
theorem sl_asymm {a b : BA} (h : Z46 a b = true) : Z46 b a = false := by
 cases h2 : Z46 b a with
 | false => rfl
 | true => have := sl_trans h h2; rw [Z1d8] at this; cases this
theorem sl_ne {a b : BA} (h : Z46 a b = true) : a ≠ b := by rintro rfl; rw [Z1d8] at h; cases h
theorem bl_eq : ∀ (x y : List UInt8), Op.bytesLess x y = decide (x < y)
 | [], [] => by simp [Op.bytesLess]
 | _ :: _, [] => by simp [Op.bytesLess]
 | [], _ :: _ => by simp [Op.bytesLess]
 | a :: x, b :: y => by
  rw [Op.bytesLess, bl_eq x y]
  simp only [List.cons_lt_cons_iff]
  by_cases h1 : a < b <;> by_cases h2 : a = b <;> by_cases h3 : x < y <;> simp [h1, h2, h3]
theorem sl_data (a b : BA) : Z46 a b = decide (a.data.toList < b.data.toList) := by
 unfold Z46
 rw [bl_eq, ByteArray.toList_eq, ByteArray.toList_eq]
theorem data_inj {a b : BA} (h : a.data.toList = b.data.toList) : a = b := by
 have : a.data = b.data := Array.toList_inj.1 h
 cases a; cases b; exact congrArg _ this
section
variable {α : Type} (key : α → BA)
def Z79 (l : List α) : Prop := l.Pairwise fun a b => Z46 (key a) (key b) = true
theorem Z79.nodup {l : List α} (h : Z79 key l) : (l.map key).Nodup := by
 unfold List.Nodup
 rw [List.pairwise_map]
 exact h.imp fun h => sl_ne h
theorem Z79.sub {l l' : List α} (h : Z79 key l) (hs : l'.Sublist l) : Z79 key l' := h.sublist hs
theorem Z79.ext {l l' : List α} (h : Z79 key l) (h' : Z79 key l') (hm : ∀ x, x ∈ l ↔ x ∈ l') : l = l' := by
 have n1 : l.Nodup := List.Pairwise.imp (fun {a b} hab (e : a = b) => sl_ne hab (congrArg key e)) h
 have n2 : l'.Nodup := List.Pairwise.imp (fun {a b} hab (e : a = b) => sl_ne hab (congrArg key e)) h'
 refine List.Perm.eq_of_pairwise (le := fun a b => Z46 (key a) (key b) = true) (fun a b _ _ h1 h2 => ?_) h h' ((List.perm_ext_iff_of_nodup n1 n2).2 hm)
 rw [sl_asymm h1] at h2
 cases h2
end
theorem Z15a {ks : List BA} (hn : ks.Nodup) : Z79 id (Z29 ks) := by
 unfold Z29 Z79
 rw [List.pairwise_map]
 have tr : ∀ a b c : List UInt8, leB a b = true → leB b c = true → leB a c = true := fun a b c h1 h2 => by simp only [leB, decide_eq_true_eq] at *; exact List.le_trans h1 h2
 have to : ∀ a b : List UInt8, (leB a b || leB b a) = true := fun a b => by simp only [leB, Bool.or_eq_true, decide_eq_true_eq]; exact List.le_total a b
 have hs := List.pairwise_mergeSort tr to (ks.map fun k => k.data.toList)
 have hnd : ((ks.map fun k => k.data.toList).mergeSort leB).Nodup := by
  rw [(List.mergeSort_perm _ leB).nodup_iff]
  unfold List.Nodup
  rw [List.pairwise_map]
  exact hn.imp fun h e => h (data_inj e)
 refine (hs.and hnd).imp ?_
 rintro a b ⟨h1, h2⟩
 simp only [id, sl_data, decide_eq_true_eq, leB] at h1 ⊢
 refine Decidable.byContradiction fun h => h2 ?_
 exact List.le_antisymm h1 (List.not_lt.1 h)
end Go.Proofs.YtkledlcmhbjadaaGreat
