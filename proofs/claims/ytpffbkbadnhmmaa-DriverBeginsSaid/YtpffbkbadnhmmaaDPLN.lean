/- The driver, plainly: the law DriverBegins. -/
import Derived.Test.YtpffbkbadnhmmaaDPLN0
import Derived.Test.YtpffbkbadnhmmaaDLawBegins
set_option linter.unusedVariables false
set_option linter.unusedSimpArgs false
set_option maxRecDepth 100000
namespace Go.Proofs.Ytpffbkbadnhmmaa
open Go Go.Eng
theorem begL_none (c : XCall) : ∀ (l : List XSnap) (a b : Int), (∀ x ∈ l, x.name ≠ c.source) → w10_DriverBeginsLF c l a b = (a, b) ∧ w10_DriverBeginsL1F c l a b = (a, b)
 | [], a, b, _ => ⟨rfl, rfl⟩
 | o :: r, a, b, h => by
  have ih := begL_none c r a b fun x hx => h x (List.mem_cons_of_mem _ hx)
  unfold w10_DriverBeginsLF w10_DriverBeginsL1F
  rw [decide_eq_false (h o List.mem_cons_self)]
  exact ih
theorem begL_at (c : XCall) : ∀ (l : List XSnap) (a b : Int), Rising XSnap.name l → ∀ x ∈ l, x.name = c.source → w10_DriverBeginsLF c l a b = (x.tag, x.size) ∧ w10_DriverBeginsL1F c l a b = (x.tag, x.size)
 | [], a, b, _, x, hx, _ => by cases hx
 | o :: r, a, b, h, x, hx, e => by
  have h' := List.pairwise_cons.1 h
  unfold w10_DriverBeginsLF w10_DriverBeginsL1F
  by_cases ho : o.name = c.source
  · have hox := rising_uniq XSnap.name h List.mem_cons_self hx (by rw [ho, e])
    subst hox
    rw [decide_eq_true ho]
    refine begL_none c r o.tag o.size fun y hy he => ?_
    have h2 : strLess o.name y.name = true := h'.1 y hy
    rw [ho, he, sl_irrefl] at h2
    cases h2
  · rw [decide_eq_false ho]
    rcases List.mem_cons.1 hx with rfl | hx
    · exact absurd e ho
    · exact begL_at c r a b h'.2 x hx e
theorem begins_true {n0 n1 n2 : Int} (h0 : U8 n0) (h1 : U8 n1) (h2 : U8 n2) (l : List XDeed) (c : XCall) : w10_DriverBeginsF n0 n1 n2 l c = true := by
 obtain ⟨b1, b2, b3, b4, z, v, s, q, e, h, hj⟩ := play_ok jn_stays h0 h1 h2 jn_empty l
 unfold w10_DriverBeginsF
 iterate 4 (try delta kBe0 kBe1 kBe2 kBe3 kBe4 kBe5)
 rw [live_true, e]
 simp only [Bool.not_true, cond_false]
 rw [Volumes_R h.1, Seen_R h.1, Snaps_R h.1]
 obtain ⟨hr, h'⟩ := iv_do h ⟨1, c.target, c.num, c.size, c.zone, c.node, c.source⟩
 have ev := Volumes_R h'.1
 have hd := Do_stp h.1 ⟨1, c.target, c.num, c.size, c.zone, c.node, c.source⟩ (by have := iv_v h; omega) (by have := iv_s h; omega)
 have hrise := h'.1.v.rise
 rw [ev, hr]
 clear ev hr h'
 rcases find_at v c.target with ⟨ef, hn⟩ | ⟨x, hx, hxn, ef⟩
 · rw [ef]
   simp only [cond_false]
   cases hs : decide (rD_SeenF 1 c.target z v s q ≥ c.num) with
   | true => rfl
   | false =>
    simp only [decide_eq_false_iff_not] at hs
    simp only [cond_false]
    revert hd hrise
    generalize rD_DoF ⟨1, c.target, c.num, c.size, c.zone, c.node, c.source⟩ z v s q = X
    intro hd hrise
    cases hd with
    | no r he _ =>
     simp only [beq_eq_false_iff_ne.2 he, Bool.not_false, cond_true]
     rw [ef]
     rfl
    | again r hv hq =>
     have hq' : rD_SeenF 1 c.target z v s q = c.num := hq
     exact absurd (by omega) hs
    | done r z' v' s' q' hv hs' _ _ _ =>
     cases hs' with
     | keep _ hk1 _ =>
      simp only [beq_eq_false_iff_ne.2 (hk1 rfl hn), Bool.not_false, cond_true]
      rw [ef]
      rfl
     | create j y tag sz hv1 hn' hy hz hsrc hsz hroom =>
      have hff : w10_findF (insR XVol.name ⟨c.target, c.size, c.zone, tag, []⟩ v) c.target = (⟨c.target, c.size, c.zone, tag, []⟩, true) :=
       find_uniq hrise ((mem_insR _ _ _ v).2 (.inl rfl)) rfl
      replace hsrc : Src s v c.source tag sz := hsrc
      replace hsz : sz ≤ c.size := hsz
      simp only [beq_self_eq_true, Bool.not_true, cond_false]
      rw [hff]
      simp only [cond_true, beq_self_eq_true, decide_true, Bool.true_and, List.length_nil, Int.natCast_zero]
      have hge : decide (c.size ≥ sz) = true := decide_eq_true hsz
      rcases hsrc with ⟨e1, rfl, rfl⟩ | ⟨e1, w, hw, hwn, rfl, rfl⟩ | ⟨e1, hns, w, hw, hwn, rfl, rfl⟩
      · have b := begL_none c s 0 0 (by rw [e1]; exact hj.sn)
        rw [find_none (v := v) (n := c.source) (by rw [e1]; exact hj.vn)]
        simp only [cond_false]
        rw [b.2]
        simp only [beq_self_eq_true, hge, cond_true]
      · have ba : ∀ a b', w10_DriverBeginsLF c s a b' = (w.tag, w.size) ∧ w10_DriverBeginsL1F c s a b' = (w.tag, w.size) := fun a b' => begL_at c s a b' h.1.s.rise w hw hwn
        rcases find_at v c.source with ⟨eg, _⟩ | ⟨u, _, _, eg⟩
        · rw [eg]
          simp only [cond_false]
          rw [(ba _ _).2]
          simp only [beq_self_eq_true, hge, cond_true]
        · rw [eg]
          simp only [cond_true]
          rw [(ba _ _).1]
          simp only [beq_self_eq_true, hge, cond_true]
      · rw [find_uniq h.1.v.rise hw hwn]
        simp only [cond_true]
        rw [(begL_none c s _ _ hns).1]
        simp only [beq_self_eq_true, hge, cond_true]
     | erase i x j y h2 hx hn hl hy hz => exact absurd (show (1 : Int) = 2 from h2) (by decide)
     | nodes i x l hv hx hn => exact hv.elim (fun e => absurd (show (1 : Int) = 3 from e) (by decide)) (fun e => absurd (show (1 : Int) = 4 from e) (by decide))
     | expand i x j y h5 hx hn hlt hy hz hr => exact absurd (show (1 : Int) = 5 from h5) (by decide)
     | cut x h6 hn hx hs => exact absurd (show (1 : Int) = 6 from h6) (by decide)
     | drop i y h7 hy hn => exact absurd (show (1 : Int) = 7 from h7) (by decide)
 · rw [ef]
   rfl
end Go.Proofs.Ytpffbkbadnhmmaa
