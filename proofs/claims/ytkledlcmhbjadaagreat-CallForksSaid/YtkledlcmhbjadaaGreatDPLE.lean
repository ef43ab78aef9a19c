/- The driver, plainly: calls: the maps do what the lists do. -/
import Derived.Test.YtkledlcmhbjadaaGreatDPLD
set_option linter.unusedVariables false
set_option linter.unusedSimpArgs false
set_option maxRecDepth 100000
namespace Go.Proofs.YtkledlcmhbjadaaGreat
open Go Go.Eng
section
variable {b1 : LA} {b2 : LB} {b3 : LC} {b4 : LD} {z : LZ} {v : LV} {s : LS} {q : LQ}
theorem act_verbs {c : XCall} (hv : Z15 c = true) : c.verb = 1 ∨ c.verb = 2 ∨ c.verb = 3 ∨ c.verb = 4 ∨ c.verb = 5 ∨ c.verb = 6 ∨ c.verb = 7 := by
 unfold Z15 at hv
 by_cases h1 : c.verb = 1
 · exact .inl h1
 by_cases h2 : c.verb = 2
 · exact .inr (.inl h2)
 by_cases h3 : c.verb = 3
 · exact .inr (.inr (.inl h3))
 by_cases h4 : c.verb = 4
 · exact .inr (.inr (.inr (.inl h4)))
 by_cases h5 : c.verb = 5
 · exact .inr (.inr (.inr (.inr (.inl h5))))
 by_cases h6 : c.verb = 6
 · exact .inr (.inr (.inr (.inr (.inr (.inl h6)))))
 by_cases h7 : c.verb = 7
 · exact .inr (.inr (.inr (.inr (.inr (.inr h7)))))
 exfalso
 simp only [beq_eq_false_iff_ne.2 h1, beq_eq_false_iff_ne.2 h2, beq_eq_false_iff_ne.2 h3, beq_eq_false_iff_ne.2 h4, beq_eq_false_iff_ne.2 h5, beq_eq_false_iff_ne.2 h6, beq_eq_false_iff_ne.2 h7, cond_false] at hv
 cases hc : (cond (cond (cond (!(Z1f c.target)) true (c.num == (0 : Int))) true (decide (c.size < (0 : Int)))) true (decide (c.size > (1125899906842624 : Int)))) <;> rw [hc] at hv <;> cases hv
theorem right_size {c : XCall} (hv : Z15 c = true) : 0 ≤ c.size ∧ c.size ≤ 1125899906842624 := by
 unfold Z15 at hv
 cases hc : (cond (cond (cond (!(Z1f c.target)) true (c.num == (0 : Int))) true (decide (c.size < (0 : Int)))) true (decide (c.size > (1125899906842624 : Int)))) with
 | true => rw [hc] at hv; cases hv
 | false =>
  simp only [Bool.cond_true_left, Bool.or_eq_false_iff, decide_eq_false_iff_not] at hc
  omega
theorem Z1cd {i n : Nat} (h : i < n) (hn : n ≤ 1000000) : (IntKind.i64.wrap ((i : Int) + 1)).toNat = i + 1 := by rw [IntKind.wrap_i64]; omega
theorem cut_eq {α : Type} (l : List α) {i : Nat} : (([] ++ ((l.take i).drop 0)) ++ ((l.take ((l.length : Int).toNat)).drop (i + 1))) = l.take i ++ l.drop (i + 1) := by simp
theorem act_R (h : RR b1 b2 b3 b4 z v s q) (c : XCall) (hv : Z15 c = true) (hlv : v.length ≤ 1000000) (hls : s.length ≤ 1000000) :
  (Z1b c b1 b2 b3 b4).1 = (Z17 c z v s q).1 ∧
  RR (Z1b c b1 b2 b3 b4).2.1 (Z1b c b1 b2 b3 b4).2.2.1 (Z1b c b1 b2 b3 b4).2.2.2 b4 (Z17 c z v s q).2.1 (Z17 c z v s q).2.2.1 (Z17 c z v s q).2.2.2.1 (Z17 c z v s q).2.2.2.2 := by
 have hc := right_size hv
 unfold Z1b Z17
 rcases act_verbs hv with e | e | e | e | e | e | e
 · rw [e]
   exact create_R h c hc
 · rw [e]
   simp only [Zcd, Ze4, Z13b, vdel_str, show ((2 : Int) == 1) = false from rfl, show ((2 : Int) == 5) = false from rfl, show ((2 : Int) == 6) = false from rfl, show ((2 : Int) == 7) = false from rfl, beq_self_eq_true, cond_true, cond_false]
   rcases Z115 z v s q c.target with ⟨e, hn⟩ | ⟨i, x, e, hi, hx, hd, hm, hnm⟩
   · rw [h.v.none hn, e]
     exact ⟨rfl, h⟩
   · obtain ⟨en, he, hr⟩ := h.v.bwd x hm
     rw [hnm] at he
     rw [he, e, decide_eq_false (by omega : ¬ (i : Int) < 0), Int.toNat_natCast, hd]
     simp only [Option.isSome_some, Option.getD_some, Option.map_some, cond_true, cond_false, hr.size, hr.zone, hr.nodes.len]
     cases decide (((x.nodes.length : Nat) : Int) > 0) with
     | true => exact ⟨rfl, h⟩
     | false =>
      simp only [cond_false]
      rcases zone_at z v s q x.zone with ⟨e2, hn2⟩ | ⟨j, y, e2, hj, hy, hd2, hm2, hnm2⟩
      · obtain ⟨w, hw, hwn⟩ := h.zn x hm
        exact absurd hwn (hn2 w hw)
      · have hyr := h.z.bwd y hm2
        rw [hnm2] at hyr
        rw [hyr, e2, Int.toNat_natCast, hd2, Z1cd hi hlv, cut_eq]
        simp only [Option.getD_some]
        refine ⟨trivial, ?_, ?_, h.s, h.q, fun w hw => ?_, fun w hw => ?_⟩
        · have := h.z.set hy (y := ⟨y.name, IntKind.i64.wrap (y.room + x.size)⟩) rfl
          rw [hnm2] at this ⊢
          exact this
        · have := h.v.del hx
          rw [hnm] at this
          exact this
        · exact h.sz w ((Zc8 _ h.v.rise.nodup hx w).1 hw).1
        · exact zhas_set (y := ⟨y.name, IntKind.i64.wrap (y.room + x.size)⟩) hy rfl (h.zn w ((Zc8 _ h.v.rise.nodup hx w).1 hw).1)
 · rw [e]
   simp only [Zcd, Z13b, vmod_str, show ((3 : Int) == 1) = false from rfl, show ((3 : Int) == 2) = false from rfl, show ((3 : Int) == 5) = false from rfl, show ((3 : Int) == 6) = false from rfl, show ((3 : Int) == 7) = false from rfl, beq_self_eq_true, cond_true, cond_false]
   rcases Z115 z v s q c.target with ⟨e, hn⟩ | ⟨i, x, e, hi, hx, hd, hm, hnm⟩
   · rw [h.v.none hn, e]
     exact ⟨rfl, h⟩
   · obtain ⟨en, he, hr⟩ := h.v.bwd x hm
     rw [hnm] at he
     rw [he, e, decide_eq_false (by omega : ¬ (i : Int) < 0), Int.toNat_natCast, hd]
     simp only [Option.isSome_some, Bool.not_true, cond_false]
     rw [with_eq _ _ hr.nodes.rise]
     refine ⟨trivial, h.z, ?_, h.s, h.q, fun w hw => ?_, fun w hw => ?_⟩
     · have := h.v.mod hx (fun e => { e with nodes := aset e.nodes c.node true }) (y := ⟨x.name, x.size, x.zone, x.tag, insW c.node x.nodes⟩) rfl fun e he => ⟨he.size, he.zone, he.tag, he.nodes.put c.node⟩
       rw [hnm] at this
       rw [hnm]
       exact this
     · rcases (Z67 _ h.v.rise.nodup hx w).1 hw with rfl | ⟨hw, _⟩
       · exact h.sz x hm
       · exact h.sz w hw
     · rcases (Z67 _ h.v.rise.nodup hx w).1 hw with rfl | ⟨hw, _⟩
       · exact h.zn x hm
       · exact h.zn w hw
 · rw [e]
   simp only [mdel_str, vmod_str, show ((4 : Int) == 1) = false from rfl, show ((4 : Int) == 2) = false from rfl, show ((4 : Int) == 3) = false from rfl, show ((4 : Int) == 5) = false from rfl, show ((4 : Int) == 6) = false from rfl, show ((4 : Int) == 7) = false from rfl, beq_self_eq_true, cond_true, cond_false]
   rcases Z115 z v s q c.target with ⟨e, hn⟩ | ⟨i, x, e, hi, hx, hd, hm, hnm⟩
   · rw [e]
     refine ⟨rfl, h.z, ?_, h.s, h.q, h.sz, h.zn⟩
     have hnone := h.v.none hn
     have key : ∀ (es : LB), aget es c.target = none → amod es c.target (fun v => { v with nodes := adel v.nodes c.node }) = es := by
      intro es
      induction es with
      | nil => intro _; rfl
      | cons e r ih =>
       intro hh
       simp only [aget] at hh
       split at hh
       · cases hh
       · rename_i hne
         simp only [amod]
         rw [if_neg hne, ih hh]
     show RV (amod b2 c.target fun v => { v with nodes := adel v.nodes c.node }) v
     rw [key b2 hnone]
     exact h.v
   · rw [e, decide_eq_true (by omega : (i : Int) ≥ 0), Int.toNat_natCast, hd]
     simp only [cond_true]
     rw [without_eq]
     refine ⟨trivial, h.z, ?_, h.s, h.q, fun w hw => ?_, fun w hw => ?_⟩
     · have := h.v.mod hx (fun e => { e with nodes := adel e.nodes c.node }) (y := ⟨x.name, x.size, x.zone, x.tag, x.nodes.filter fun x => !decide (x = c.node)⟩) rfl fun e he => ⟨he.size, he.zone, he.tag, he.nodes.del c.node⟩
       rw [hnm] at this
       rw [hnm]
       exact this
     · rcases (Z67 _ h.v.rise.nodup hx w).1 hw with rfl | ⟨hw, _⟩
       · exact h.sz x hm
       · exact h.sz w hw
     · rcases (Z67 _ h.v.rise.nodup hx w).1 hw with rfl | ⟨hw, _⟩
       · exact h.zn x hm
       · exact h.zn w hw
 · rw [e]
   exact expand_R h c hc
 · rw [e]
   exact cut_R h c
 · rw [e]
   simp only [mdel_str, show ((7 : Int) == 1) = false from rfl, show ((7 : Int) == 2) = false from rfl, show ((7 : Int) == 3) = false from rfl, show ((7 : Int) == 4) = false from rfl, show ((7 : Int) == 5) = false from rfl, show ((7 : Int) == 6) = false from rfl, beq_self_eq_true, cond_true, cond_false]
   rcases snap_at z v s q c.target with ⟨e, hn⟩ | ⟨i, x, e, hi, hx, hd, hm, hnm⟩
   · rw [e]
     refine ⟨rfl, h.z, h.v, ?_, h.q, h.sz, h.zn⟩
     have hnone := h.s.none hn
     have key : ∀ (es : LC), aget es c.target = none → adel es c.target = es := by
      intro es
      induction es with
      | nil => intro _; rfl
      | cons e r ih =>
       intro hh
       simp only [aget] at hh
       split at hh
       · cases hh
       · rename_i hne
         simp only [adel]
         rw [if_neg hne, ih hh]
     show RS (adel b3 c.target) s
     rw [key b3 hnone]
     exact h.s
   · rw [e, decide_eq_true (by omega : (i : Int) ≥ 0), Int.toNat_natCast, Z1cd hi hls, cut_eq]
     refine ⟨rfl, h.z, h.v, ?_, h.q, h.sz, h.zn⟩
     have := h.s.del hx
     rw [hnm] at this
     exact this
theorem DoLF_at (c : XCall) (z : LZ) (v : LV) (s : LS) (q : LQ) {m : Nat} (hl : Z1c c.verb c.target z v s q = (m : Int)) : ∀ (l : LQ) (k : Nat) (a : LQ), k ≤ m → Z6a c z v s q l k a = a ++ (l.take (m - k) ++ l.drop (m - k + 1))
 | [], k, a, _ => by simp [Z6a]
 | o :: r, k, a, hk => by
  unfold Z6a
  rw [hl]
  by_cases e : k = m
  · subst e
    have hrest : ∀ (l : LQ) (j : Nat) (a : LQ), k < j → Z6a c z v s q l j a = a ++ l := by
     intro l
     induction l with
     | nil => intro j a _; simp [Z6a]
     | cons o l ih =>
      intro j a hj
      unfold Z6a
      rw [hl, beq_eq_false_iff_ne.2 (by omega : (j : Int) ≠ (k : Int))]
      simp only [Bool.not_false, cond_true]
      rw [ih _ _ (by omega)]
      simp
    simp only [beq_self_eq_true, Bool.not_true, cond_false]
    rw [hrest _ _ _ (by omega)]
    simp
  · rw [beq_eq_false_iff_ne.2 (by omega : (k : Int) ≠ (m : Int))]
    simp only [Bool.not_false, cond_true]
    rw [DoLF_at c z v s q hl r (k + 1) _ (by omega), show m - k = (m - (k + 1)) + 1 from by omega]
    simp
theorem DoLF_none (c : XCall) (z : LZ) (v : LV) (s : LS) (q : LQ) (hl : Z1c c.verb c.target z v s q = -1) : ∀ (l : LQ) (k : Nat) (a : LQ), Z6a c z v s q l k a = a ++ l
 | [], k, a => by simp [Z6a]
 | o :: r, k, a => by
  unfold Z6a
  rw [hl, beq_eq_false_iff_ne.2 (by omega : (k : Int) ≠ -1)]
  simp only [Bool.not_false, cond_true]
  rw [DoLF_none c z v s q hl r]
  simp
theorem of_tgt (c : XCall) : Z23 c.verb c.target = Z7f c := by
 unfold Z23 Z7f Z4a
 rfl
theorem cmp_lt (a b : Int) : decide (Z1d a b < 0) = decide (a < b) := by
 unfold Z1d Z55
 simp only [beq_self_eq_true, Bool.not_true, cond_false]
 by_cases h : a < b
 · rw [decide_eq_true h]; rfl
 · rw [decide_eq_false h]
   cases decide (a > b) <;> rfl
theorem cmp_eq (a b : Int) : (Z1d a b == 0) = (a == b) := by
 unfold Z1d Z55
 simp only [beq_self_eq_true, Bool.not_true, cond_false]
 by_cases h : a < b
 · rw [decide_eq_true h, beq_eq_false_iff_ne.2 (by omega : a ≠ b)]; rfl
 · rw [decide_eq_false h]
   by_cases h2 : a > b
   · rw [decide_eq_true h2, beq_eq_false_iff_ne.2 (by omega : a ≠ b)]; rfl
   · rw [decide_eq_false h2, show a = b from by omega, beq_self_eq_true]; rfl
theorem NameLF_eq (a : BA) : ∀ (n i : Nat), Z59 a n i = Z81 a n i
 | 0, _ => rfl
 | n + 1, i => by
  unfold Z59 Z81
  rw [NameLF_eq a n (i + 1)]
  simp only [Bool.cond_false_right, Bool.cond_true_left, Bool.not_or, Bool.not_and]
theorem Name_eq (a : BA) : Z1f a = Z3e a := by
 unfold Z1f Z3e
 rw [NameLF_eq]
 have e : (!(decide (a = (⟨#[]⟩ : BA)))) = decide ((a.size : Int) ≥ 1) := by
  rw [Bool.eq_iff_iff]
  simp only [Bool.not_eq_true', decide_eq_false_iff_not, decide_eq_true_eq]
  constructor
  · intro h
    rcases Nat.eq_zero_or_pos a.size with h0 | h0
    · exact absurd (by obtain ⟨d⟩ := a; congr 1; exact Array.eq_empty_of_size_eq_zero h0) h
    · omega
  · rintro h rfl
    have : ((⟨#[]⟩ : BA).size : Int) = 0 := rfl
    omega
 rw [e]
theorem Right_eq (c : XCall) : Z15 c = Z45 c := by
 unfold Z15 Z45
 simp only [Name_eq]
 cases hc : (cond (cond (cond (!(Z3e c.target)) true (c.num == (0 : Int))) true (decide (c.size < (0 : Int)))) true (decide (c.size > (1125899906842624 : Int)))) with
 | true => rfl
 | false =>
  simp only [cond_false]
  simp only [Bool.cond_true_left, Bool.or_eq_false_iff, decide_eq_false_iff_not] at hc
  have hz : (!(decide (c.size > (0 : Int)))) = (c.size == (0 : Int)) := by
   rw [Bool.eq_iff_iff]
   simp only [Bool.not_eq_true', decide_eq_false_iff_not, beq_iff_eq]
   omega
  simp only [hz, beq_self_eq_true, decide_true, Bool.true_and, Bool.and_true, Bool.cond_false_right, Bool.cond_true_left]
  generalize (c.verb == 1) = v1
  generalize (c.verb == 2) = v2
  generalize (c.verb == 3) = v3
  generalize (c.verb == 4) = v4
  generalize (c.verb == 5) = v5
  generalize (c.verb == 6) = v6
  generalize (c.verb == 7) = v7
  generalize Z3e c.zone = n1
  generalize Z3e c.node = n2
  generalize Z3e c.source = n3
  generalize decide (c.size > 0) = k1
  generalize (c.size == 0) = k2
  generalize decide (c.zone = (⟨#[]⟩ : BA)) = e1
  generalize decide (c.node = (⟨#[]⟩ : BA)) = e2
  generalize decide (c.source = (⟨#[]⟩ : BA)) = e3
  cases v1 <;> cases v2 <;> cases v3 <;> cases v4 <;> cases v5 <;> cases v6 <;> cases v7 <;> simp only [cond_true, cond_false] <;> grind
def EP (r : XRes) : Prop := r.err = 0 ∨ r = ⟨r.err, 0, (⟨#[]⟩ : BA), 0⟩
theorem ep_cond {β : Type} {c : Bool} {x y : XRes × β} (hx : EP x.1) (hy : EP y.1) : EP (cond c x y).1 := by cases c <;> assumption
theorem create_err (c : XCall) (z : LZ) (v : LV) (s : LS) (q : LQ) : EP (Zc c z v s q).1 := by
 unfold Zc
 repeat' (first | exact .inl rfl | exact .inr rfl | refine ep_cond ?_ ?_)
theorem expand_err (i : Int) (c : XCall) (z : LZ) (v : LV) (s : LS) (q : LQ) : EP (Z20 i c z v s q).1 := by
 unfold Z20
 repeat' (first | exact .inl rfl | exact .inr rfl | refine ep_cond ?_ ?_)
theorem cut_err (c : XCall) (z : LZ) (v : LV) (s : LS) (q : LQ) : EP (Z33 c z v s q).1 := by
 unfold Z33
 repeat' (first | exact .inl rfl | exact .inr rfl | refine ep_cond ?_ ?_)
theorem do_err (c : XCall) (z : LZ) (v : LV) (s : LS) (q : LQ) : EP (Z17 c z v s q).1 := by
 unfold Z17
 repeat' (first | exact .inl rfl | exact .inr rfl | exact create_err _ _ _ _ _ | exact expand_err _ _ _ _ _ _ | exact cut_err _ _ _ _ _ | refine ep_cond ?_ ?_)
theorem Do_R (h : RR b1 b2 b3 b4 z v s q) (c : XCall) (hlv : v.length ≤ 1000000) (hls : s.length ≤ 1000000) :
  (Z1e c b1 b2 b3 b4).1 = (Z2c c z v s q).1 ∧
  RR (Z1e c b1 b2 b3 b4).2.1 (Z1e c b1 b2 b3 b4).2.2.1 (Z1e c b1 b2 b3 b4).2.2.2.1 (Z1e c b1 b2 b3 b4).2.2.2.2 (Z2c c z v s q).2.1 (Z2c c z v s q).2.2.1 (Z2c c z v s q).2.2.2.1 (Z2c c z v s q).2.2.2.2 := by
 have hlq := h.q.len
 unfold Z1e Z2c
 rw [← Right_eq]
 cases hright : Z15 c with
 | false => exact ⟨rfl, h⟩
 | true =>
  simp only [Bool.not_true, cond_false, of_tgt, mget_tgt, mset_tgt, cmp_lt, cmp_eq]
  obtain ⟨ha, hR⟩ := act_R h c hright hlv hls
  have hseen := Z228 c z v s q
  rcases last_at z v s q c.verb c.target with ⟨e, hn⟩ | ⟨i, x, e, hi, hx, hd, hm, hnm⟩
  · have hg : aget b4 (Z7f c) = none := h.q.none hn
    rw [hg, e, hlq]
    simp only [Option.isSome_none, Bool.not_false, cond_true, cond_false, show decide ((-1 : Int) ≥ 0) = false from rfl, show decide ((-1 : Int) < 0) = true from rfl]
    cases decide ((q.length : Int) ≥ 256) with
    | true => exact ⟨rfl, h⟩
    | false =>
     simp only [cond_false]
     rw [hseen] at hR
     rw [hseen, DoLF_none c z v s q e, List.nil_append, ha]
     have fin : ∀ r : XRes, RD (aset b4 (Z7f c) ⟨c, r⟩) (q ++ [⟨c, r⟩]) := fun r => h.q.app (d := ⟨c, r⟩) hn
     cases hc : (!(((Z17 c z v s q).1).err == (0 : Int))) with
     | true =>
      simp only [cond_true]
      have hr : (Z17 c z v s q).1 = ⟨(Z17 c z v s q).1.err, 0, (⟨#[]⟩ : BA), 0⟩ := (do_err c z v s q).resolve_left (by simpa using hc)
      rw [← hr]
      exact ⟨rfl, hR.z, hR.v, hR.s, fin _, hR.sz, hR.zn⟩
     | false => exact ⟨rfl, hR.z, hR.v, hR.s, fin _, hR.sz, hR.zn⟩
  · have hg : aget b4 (Z7f c) = some x := by have := h.q.bwd x hm; rw [hnm] at this; exact this
    rw [hg, e, Int.toNat_natCast, hd, decide_eq_true (by omega : (i : Int) ≥ 0), decide_eq_false (by omega : ¬ (i : Int) < 0)]
    simp only [Option.isSome_some, Option.getD_some, Bool.not_true, cond_true, cond_false]
    cases decide (c.num < x.c.num) with
    | true => exact ⟨rfl, h⟩
    | false =>
     simp only [cond_false]
     have hcm : (((x.c.verb) == c.verb) && ((decide ((x.c.target) = c.target)) && (((x.c.num) == c.num) && (((x.c.size) == c.size) && ((decide ((x.c.zone) = c.zone)) && ((decide ((x.c.node) = c.node)) && (decide ((x.c.source) = c.source)))))))) =
       ((c.verb == (x.c.verb)) && ((decide (c.target = (x.c.target))) && ((c.num == (x.c.num)) && ((c.size == (x.c.size)) && ((decide (c.zone = (x.c.zone))) && ((decide (c.node = (x.c.node))) && (decide (c.source = (x.c.source))))))))) := by
      rw [Bool.eq_iff_iff]
      simp only [Bool.and_eq_true, beq_iff_eq, decide_eq_true_eq, eq_comm (a := c.verb), eq_comm (a := c.target), eq_comm (a := c.num), eq_comm (a := c.size), eq_comm (a := c.zone), eq_comm (a := c.node), eq_comm (a := c.source)]
     rw [hcm]
     generalize ((c.verb == (x.c.verb)) && ((decide (c.target = (x.c.target))) && ((c.num == (x.c.num)) && ((c.size == (x.c.size)) && ((decide (c.zone = (x.c.zone))) && ((decide (c.node = (x.c.node))) && (decide (c.source = (x.c.source))))))))) = same
     cases (c.num == x.c.num) with
     | true =>
      simp only [cond_true]
      cases same with
      | true => exact ⟨rfl, h⟩
      | false => exact ⟨rfl, h⟩
     | false =>
      simp only [cond_false]
      rw [hseen] at hR
      rw [hseen, DoLF_at c z v s q e q 0 [] (Nat.zero_le _), List.nil_append, Nat.sub_zero, ha]
      have fin : ∀ r : XRes, RD (aset b4 (Z7f c) ⟨c, r⟩) ((q.take i ++ q.drop (i + 1)) ++ [⟨c, r⟩]) := fun r => h.q.repl (d := ⟨c, r⟩) hx hnm.symm
      cases hc : (!(((Z17 c z v s q).1).err == (0 : Int))) with
      | true =>
       simp only [cond_true]
       have hr : (Z17 c z v s q).1 = ⟨(Z17 c z v s q).1.err, 0, (⟨#[]⟩ : BA), 0⟩ := (do_err c z v s q).resolve_left (by simpa using hc)
       rw [← hr]
       exact ⟨rfl, hR.z, hR.v, hR.s, fin _, hR.sz, hR.zn⟩
      | false => exact ⟨rfl, hR.z, hR.v, hR.s, fin _, hR.sz, hR.zn⟩
end
end Go.Proofs.YtkledlcmhbjadaaGreat
