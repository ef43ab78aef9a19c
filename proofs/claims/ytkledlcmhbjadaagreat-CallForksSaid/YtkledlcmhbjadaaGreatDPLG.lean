/- The driver, plainly: how much the lists hold. -/
import Derived.Test.YtkledlcmhbjadaaGreatDPLF
import Derived.Test.YtkledlcmhbjadaaGreatDH3
set_option linter.unusedVariables false
set_option linter.unusedSimpArgs false
set_option maxRecDepth 100000
namespace Go.Proofs.YtkledlcmhbjadaaGreat
open Go Go.Eng
structure Bd (n : Nat) (Z : LZ) (V : LV) (S : LS) (Q : LQ) : Prop where
 z : Z.length ≤ 16
 v : V.length ≤ 64
 s : S.length ≤ 64
 q : Q.length ≤ 256
 vs : ∀ x ∈ V, x.nodes.length ≤ n ∧ x.name.size ≤ 40 ∧ ∀ m ∈ x.nodes, m.size ≤ 40
 ss : ∀ x ∈ S, x.name.size ≤ 40
theorem Bd.mono {n m : Nat} {z : LZ} {v : LV} {s : LS} {q : LQ} (h : Bd n z v s q) (hm : n ≤ m) : Bd m z v s q :=
 ⟨h.z, h.v, h.s, h.q, fun x hx => ⟨Nat.le_trans (h.vs x hx).1 hm, (h.vs x hx).2⟩, h.ss⟩
theorem Z16c {a : BA} (h : Z1f a = true) : a.size ≤ 40 := by
 unfold Z1f at h
 cases h1 : Z59 a a.size 0 with
 | true => rw [h1] at h; cases h
 | false =>
  rw [h1, cond_false, Bool.cond_false_right, Bool.and_eq_true] at h
  have := h.2
  simp only [decide_eq_true_eq] at this
  omega
theorem right_target {c : XCall} (hv : Z15 c = true) : c.target.size ≤ 40 := by
 unfold Z15 at hv
 cases hc : Z1f c.target with
 | true => exact Z16c hc
 | false => rw [hc] at hv; cases hv
theorem right_node {c : XCall} (hv : Z15 c = true) (h3 : c.verb = 3) : c.node.size ≤ 40 := by
 unfold Z15 at hv
 cases hc : Z1f c.node with
 | true => exact Z16c hc
 | false =>
  rw [hc, h3] at hv
  simp only [show ((3 : Int) == 1) = false from rfl, show ((3 : Int) == 2) = false from rfl, show ((3 : Int) == 7) = false from rfl, beq_self_eq_true, cond_true, cond_false] at hv
  simp only [Bool.cond_false_right, Bool.and_false, Bool.false_and] at hv
  revert hv
  cases (cond (cond (cond (!(Z1f c.target)) true (c.num == (0 : Int))) true (decide (c.size < (0 : Int)))) true (decide (c.size > (1125899906842624 : Int)))) <;> simp
section
variable {b1 : LA} {b2 : LB} {b3 : LC} {b4 : LD} {z : LZ} {v : LV} {s : LS} {q : LQ} {n : Nat}
theorem Z1c9 {β : Type} {P : β → Prop} {c : Bool} {x y : β} (hx : c = true → P x) (hy : c = false → P y) : P (cond c x y) := by cases c; exact hy rfl; exact hx rfl
theorem Bd.setz (h : Bd n z v s q) (j : Nat) (y : XZone) : Bd n (z.set j y) v s q := ⟨by rw [List.length_set]; exact h.z, h.v, h.s, h.q, h.vs, h.ss⟩
theorem Bd.setv (h : Bd n z v s q) (j : Nat) {y : XVol} (hy : y.nodes.length ≤ n ∧ y.name.size ≤ 40 ∧ ∀ m ∈ y.nodes, m.size ≤ 40) : Bd n z (v.set j y) s q :=
 ⟨h.z, by rw [List.length_set]; exact h.v, h.s, h.q, fun x hx => (List.mem_or_eq_of_mem_set hx).elim (h.vs x) (fun e => by rw [e]; exact hy), h.ss⟩
theorem Bd.insv (h : Bd n z v s q) {y : XVol} (hl : v.length < 64) (hy : y.nodes.length ≤ n ∧ y.name.size ≤ 40 ∧ ∀ m ∈ y.nodes, m.size ≤ 40) : Bd n z (insR XVol.name y v) s q :=
 ⟨h.z, by rw [Z1c3]; omega, h.s, h.q, fun x hx => ((Zab _ y x v).1 hx).elim (fun e => by rw [e]; exact hy) (h.vs x), h.ss⟩
theorem Bd.inss (h : Bd n z v s q) {y : XSnap} (hl : s.length < 64) (hy : y.name.size ≤ 40) : Bd n z v (insR XSnap.name y s) q :=
 ⟨h.z, h.v, by rw [Z1c3]; omega, h.q, h.vs, fun x hx => ((Zab _ y x s).1 hx).elim (fun e => by rw [e]; exact hy) (h.ss x)⟩
theorem Bd.subv (h : Bd n z v s q) {v' : LV} (hs : v'.Sublist v) : Bd n z v' s q :=
 ⟨h.z, Nat.le_trans hs.length_le h.v, h.s, h.q, fun x hx => h.vs x (hs.subset hx), h.ss⟩
theorem Bd.subs (h : Bd n z v s q) {s' : LS} (hs : s'.Sublist s) : Bd n z v s' q :=
 ⟨h.z, h.v, Nat.le_trans hs.length_le h.s, h.q, h.vs, fun x hx => h.ss x (hs.subset hx)⟩
theorem Bd.seen (h : Bd n z v s q) {q' : LQ} (hq : q'.length ≤ 256) : Bd n z v s q' := ⟨h.z, h.v, h.s, hq, h.vs, h.ss⟩
abbrev R5 := XRes × LZ × LV × LS × LQ
def BdP (n : Nat) (x : LZ × LV × LS × LQ) : Prop := Bd n x.1 x.2.1 x.2.2.1 x.2.2.2
theorem create_Bd (h : Bd n z v s q) (c : XCall) (ht : c.target.size ≤ 40) : BdP n (Zc c z v s q).2 := by
 have key : ∀ (j : Nat) (y : XZone) (tag : Int), v.length < 64 → Bd n (z.set j y) (insR XVol.name ⟨c.target, c.size, c.zone, tag, []⟩ v) s q := fun j y tag hl => (h.insv hl ⟨Nat.zero_le _, ht, fun m hm => by cases hm⟩).setz j y
 unfold Zc
 simp only [Z106, Ze8, Ze7]
 have fin : ∀ (tag : Int) (j : Nat) (y : XZone) (r : XRes), v.length < 64 → BdP n (cond (!(insL XVol.name ⟨c.target, c.size, c.zone, tag, []⟩ v false []).1) (r, z.set j y, (insL XVol.name ⟨c.target, c.size, c.zone, tag, []⟩ v false []).2 ++ [⟨c.target, c.size, c.zone, tag, []⟩], s, q) (r, z.set j y, (insL XVol.name ⟨c.target, c.size, c.zone, tag, []⟩ v false []).2, s, q)).2 := by
  intro tag j y r hl
  rw [Z193 XVol.name ⟨c.target, c.size, c.zone, tag, []⟩ v (fun l => (r, z.set j y, l, s, q))]
  exact key j y tag hl
 have h0 : ∀ r : XRes, BdP n (r, z, v, s, q).2 := fun _ => h
 repeat' (first
  | exact h0 _
  | (refine fin _ _ _ _ ?_; simp only [decide_eq_false_iff_not, decide_eq_true_eq] at *; omega)
  | refine Z1c9 (P := fun x : R5 => BdP n x.2) (fun _ => ?_) (fun hh => ?_))
theorem cut_Bd (h : Bd n z v s q) (c : XCall) (ht : c.target.size ≤ 40) : BdP n (Z33 c z v s q).2 := by
 unfold Z33
 simp only [Z1f3]
 have fin : ∀ (y : XSnap) (r : XRes), y.name = c.target → s.length < 64 → BdP n (cond (!(insL XSnap.name y s false []).1) (r, z, v, (insL XSnap.name y s false []).2 ++ [y], q) (r, z, v, (insL XSnap.name y s false []).2, q)).2 := by
  intro y r hy hl
  rw [Z193 XSnap.name y s (fun l => (r, z, v, l, q))]
  exact h.inss hl (by rw [hy]; exact ht)
 have h0 : ∀ r : XRes, BdP n (r, z, v, s, q).2 := fun _ => h
 repeat' (first
  | exact h0 _
  | (refine fin _ _ ?_ ?_; · rfl
     · simp only [decide_eq_false_iff_not, decide_eq_true_eq] at *; omega)
  | refine Z1c9 (P := fun x : R5 => BdP n x.2) (fun _ => ?_) (fun hh => ?_))
theorem expand_Bd (h : Bd n z v s q) (i : Int) (hi : i < 0 ∨ v.getD i.toNat default ∈ v) (c : XCall) : Bd n (Z20 i c z v s q).2.1 (Z20 i c z v s q).2.2 s q := by
 unfold Z20
 have h0 : ∀ r : XRes, Bd n (r, z, v).2.1 (r, z, v).2.2 s q := fun _ => h
 by_cases h1 : i < 0
 · rw [decide_eq_true h1]
   exact h
 · rw [decide_eq_false h1, cond_false]
   have hm := hi.resolve_left h1
   cases decide ((v.getD i.toNat default).size ≥ c.size) with
   | true => exact h
   | false =>
    simp only [cond_false]
    refine Z1c9 (P := fun x : XRes × LZ × LV => Bd n x.2.1 x.2.2 s q) (fun _ => h) (fun _ => ?_)
    exact (h.setv i.toNat (y := ⟨(v.getD i.toNat default).name, c.size, (v.getD i.toNat default).zone, (v.getD i.toNat default).tag, (v.getD i.toNat default).nodes⟩) (h.vs (v.getD i.toNat default) hm)).setz _ _
theorem do_Bd (hR : RR b1 b2 b3 b4 z v s q) (h : Bd n z v s q) (c : XCall) (hv : Z15 c = true) : BdP (n + 1) (Z17 c z v s q).2 := by
 have h' := h.mono (Nat.le_succ n)
 have ht := right_target hv
 have hnodes : ∀ x ∈ v, Z79 id x.nodes := fun x hx => let ⟨_, _, hr⟩ := hR.v.bwd x hx; hr.nodes.rise
 unfold Z17
 rcases act_verbs hv with e | e | e | e | e | e | e
 · rw [e]; exact create_Bd h' c ht
 · rw [e]
   simp only [show ((2 : Int) == 1) = false from rfl, beq_self_eq_true, cond_true, cond_false]
   rcases Z115 z v s q c.target with ⟨e, hn⟩ | ⟨i, x, e, hi, hx, hd, hm, hnm⟩
   · rw [e]; exact h'
   · rw [e, decide_eq_false (by omega : ¬ (i : Int) < 0), Int.toNat_natCast, hd]
     simp only [cond_false]
     refine Z1c9 (P := fun x : R5 => BdP (n + 1) x.2) (fun _ => h') (fun _ => ?_)
     rw [Z1cd hi (by have := h.v; omega), cut_eq]
     exact (h'.subv (cut_sub v i)).setz _ _
 · rw [e]
   simp only [show ((3 : Int) == 1) = false from rfl, show ((3 : Int) == 2) = false from rfl, beq_self_eq_true, cond_true, cond_false]
   rcases Z115 z v s q c.target with ⟨e, hn⟩ | ⟨i, x, e, hi, hx, hd, hm, hnm⟩
   · rw [e]; exact h'
   · rw [e, decide_eq_false (by omega : ¬ (i : Int) < 0), Int.toNat_natCast, hd]
     simp only [cond_false]
     obtain ⟨q1, q2, q3⟩ := h.vs x hm
     rw [with_eq _ _ (hnodes x hm)]
     refine h'.setv i ⟨?_, q2, fun m hm' => ?_⟩
     · have := length_insW c.node x.nodes
       show (insW c.node x.nodes).length ≤ n + 1
       omega
     · rcases (Z18d c.node m x.nodes).1 hm' with rfl | hm'
       · exact right_node hv (by assumption)
       · exact q3 m hm'
 · rw [e]
   simp only [show ((4 : Int) == 1) = false from rfl, show ((4 : Int) == 2) = false from rfl, show ((4 : Int) == 3) = false from rfl, beq_self_eq_true, cond_true, cond_false]
   rcases Z115 z v s q c.target with ⟨e, hn⟩ | ⟨i, x, e, hi, hx, hd, hm, hnm⟩
   · rw [e]; exact h'
   · rw [e, decide_eq_true (by omega : (i : Int) ≥ 0), Int.toNat_natCast, hd]
     simp only [cond_true]
     obtain ⟨q1, q2, q3⟩ := h'.vs x hm
     rw [without_eq]
     exact h'.setv i ⟨Nat.le_trans (List.length_filter_le _ _) q1, q2, fun m hm' => q3 m (List.mem_filter.1 hm').1⟩
 · rw [e]
   simp only [show ((5 : Int) == 1) = false from rfl, show ((5 : Int) == 2) = false from rfl, show ((5 : Int) == 3) = false from rfl, show ((5 : Int) == 4) = false from rfl, beq_self_eq_true, cond_true, cond_false]
   refine expand_Bd h' _ ?_ c
   rcases Z115 z v s q c.target with ⟨e, hn⟩ | ⟨i, x, e, hi, hx, hd, hm, hnm⟩
   · left; omega
   · right; rw [e, Int.toNat_natCast, hd]; exact hm
 · rw [e]; exact cut_Bd h' c ht
 · rw [e]
   simp only [show ((7 : Int) == 1) = false from rfl, show ((7 : Int) == 2) = false from rfl, show ((7 : Int) == 3) = false from rfl, show ((7 : Int) == 4) = false from rfl, show ((7 : Int) == 5) = false from rfl, show ((7 : Int) == 6) = false from rfl, cond_false]
   rcases snap_at z v s q c.target with ⟨e, hn⟩ | ⟨i, x, e, hi, hx, hd, hm, hnm⟩
   · rw [e]; exact h'
   · rw [e, decide_eq_true (by omega : (i : Int) ≥ 0), Int.toNat_natCast, Z1cd hi (by have := h.s; omega), cut_eq]
     exact h'.subs (cut_sub s i)
theorem Do_Bd (hR : RR b1 b2 b3 b4 z v s q) (h : Bd n z v s q) (c : XCall) : BdP (n + 1) (Z2c c z v s q).2 := by
 have h' := h.mono (Nat.le_succ n)
 have h0 : ∀ r : XRes, BdP (n + 1) (r, z, v, s, q).2 := fun _ => h'
 unfold Z2c
 rw [← Right_eq]
 cases hright : Z15 c with
 | false => exact h'
 | true =>
  simp only [Bool.not_true, cond_false]
  have hseen := Z228 c z v s q
  have hd := do_Bd hR h c hright
  rcases last_at z v s q c.verb c.target with ⟨e, hn⟩ | ⟨i, x, e, hi, hx, hd, hm, hnm⟩
  · rw [e]
    simp only [show decide ((-1 : Int) ≥ 0) = false from rfl, show decide ((-1 : Int) < 0) = true from rfl, cond_true, cond_false]
    refine Z1c9 (P := fun x : R5 => BdP (n + 1) x.2) (fun _ => h') (fun hh => ?_)
    rw [hseen, DoLF_none c z v s q e, List.nil_append]
    exact Bd.seen hd (by
     have hl : q.length < 256 := by simp only [decide_eq_false_iff_not] at hh; omega
     rw [List.length_append]
     simp only [List.length_cons, List.length_nil]
     omega)
  · rename_i hd0
    rw [e, Int.toNat_natCast, decide_eq_true (by omega : (i : Int) ≥ 0), decide_eq_false (by omega : ¬ (i : Int) < 0)]
    simp only [cond_true, cond_false]
    repeat' (first
     | exact h'
     | refine Z1c9 (P := fun x : R5 => BdP (n + 1) x.2) (fun _ => ?_) (fun _ => ?_))
    rw [hseen, DoLF_at c z v s q e q 0 [] (Nat.zero_le _), List.nil_append, Nat.sub_zero]
    exact Bd.seen hd0 (by
     have hl := h.q
     simp only [List.length_append, List.length_cons, List.length_nil, List.length_take, List.length_drop]
     omega)
theorem Put_Bd (h : Bd n z v s q) (name node : BA) (tag : Int) : Bd n z (Z7a name node tag z v s q).2 s q := by
 unfold Z7a
 rcases Z115 z v s q name with ⟨e, hn⟩ | ⟨i, x, e, hi, hx, hd, hm, hnm⟩
 · rw [e]; exact h
 · rw [e, decide_eq_false (by omega : ¬ (i : Int) < 0), Int.toNat_natCast, hd]
   simp only [cond_false]
   refine Z1c9 (P := fun x : Int × LV => Bd n z x.2 s q) (fun _ => ?_) (fun _ => h)
   exact h.setv i (y := ⟨x.name, x.size, x.zone, tag, x.nodes⟩) (h.vs x hm)
def IV (n : Nat) (b1 : LA) (b2 : LB) (b3 : LC) (b4 : LD) (z : LZ) (v : LV) (s : LS) (q : LQ) : Prop := RR b1 b2 b3 b4 z v s q ∧ Bd n z v s q
theorem IV.mono {m : Nat} (h : IV n b1 b2 b3 b4 z v s q) (hm : n ≤ m) : IV m b1 b2 b3 b4 z v s q := ⟨h.1, h.2.mono hm⟩
theorem iv_z (h : IV n b1 b2 b3 b4 z v s q) : z.length ≤ 1000 := Nat.le_trans h.2.z (by omega)
theorem iv_v (h : IV n b1 b2 b3 b4 z v s q) : v.length ≤ 1000 := Nat.le_trans h.2.v (by omega)
theorem iv_s (h : IV n b1 b2 b3 b4 z v s q) : s.length ≤ 1000 := Nat.le_trans h.2.s (by omega)
theorem iv_q (h : IV n b1 b2 b3 b4 z v s q) : q.length ≤ 1000 := Nat.le_trans h.2.q (by omega)
theorem Z2a2 (h : IV 1000 b1 b2 b3 b4 z v s q) : ∀ x ∈ v, x.nodes.length ≤ 1000 := fun x hx => (h.2.vs x hx).1
theorem iv_zn (h : IV n b1 b2 b3 b4 z v s q) : ∀ x ∈ v, ZHas z x.zone := h.1.zn
theorem iv_vb (h : IV 1000 b1 b2 b3 b4 z v s q) : VB b2 := by
 have hmax : (40 : Nat) ≤ maxLen := by unfold maxLen; omega
 refine ⟨⟨?_, fun k hk => ?_⟩, fun e he => ⟨?_, fun k hk => ?_⟩⟩
 · rw [List.length_map, h.1.v.len]
   have := h.2.v
   omega
 · have hs := Z74.2 hk
   obtain ⟨e, he⟩ := Option.isSome_iff_exists.1 hs
   obtain ⟨x, hx, rfl, _⟩ := h.1.v.fwd k e he
   exact Nat.le_trans (h.2.vs x hx).2.1 hmax
 · obtain ⟨x, hx, _, hr⟩ := h.1.v.fwd e.1 e.2 (aget_of_mem h.1.v.nd he)
   rw [List.length_map, hr.nodes.len]
   have := (h.2.vs x hx).1
   omega
 · obtain ⟨x, hx, _, hr⟩ := h.1.v.fwd e.1 e.2 (aget_of_mem h.1.v.nd he)
   have hs := Z74.2 hk
   rw [hr.nodes.get k] at hs
   by_cases hm : k ∈ x.nodes
   · exact Nat.le_trans ((h.2.vs x hx).2.2 k hm) hmax
   · rw [if_neg hm] at hs; cases hs
theorem iv_nk (h : IV n b1 b2 b3 b4 z v s q) : NK b3 := by
 have hmax : (40 : Nat) ≤ maxLen := by unfold maxLen; omega
 refine ⟨?_, fun k hk => ?_⟩
 · rw [List.length_map, h.1.s.len]
   have := h.2.s
   omega
 · have hs := Z74.2 hk
   obtain ⟨e, he⟩ := Option.isSome_iff_exists.1 hs
   obtain ⟨x, hx, rfl, _⟩ := h.1.s.fwd k e he
   exact Nat.le_trans (h.2.ss x hx) hmax
theorem iv_do (h : IV n b1 b2 b3 b4 z v s q) (c : XCall) : (Z1e c b1 b2 b3 b4).1 = (Z2c c z v s q).1 ∧
  IV (n + 1) (Z1e c b1 b2 b3 b4).2.1 (Z1e c b1 b2 b3 b4).2.2.1 (Z1e c b1 b2 b3 b4).2.2.2.1 (Z1e c b1 b2 b3 b4).2.2.2.2 (Z2c c z v s q).2.1 (Z2c c z v s q).2.2.1 (Z2c c z v s q).2.2.2.1 (Z2c c z v s q).2.2.2.2 := by
 obtain ⟨h1, h2⟩ := Do_R h.1 c (by have := h.2.v; omega) (by have := h.2.s; omega)
 exact ⟨h1, h2, Do_Bd h.1 h.2 c⟩
theorem iv_put (h : IV n b1 b2 b3 b4 z v s q) (name node : BA) (tag : Int) : (Z8f name node tag b1 b2 b3 b4).1 = (Z7a name node tag z v s q).1 ∧
  IV n b1 (Z8f name node tag b1 b2 b3 b4).2 b3 b4 z (Z7a name node tag z v s q).2 s q := by
 obtain ⟨h1, h2⟩ := Put_R h.1 name node tag
 exact ⟨h1, h2, Put_Bd h.2 name node tag⟩
end
end Go.Proofs.YtkledlcmhbjadaaGreat
