/- The driver, plainly: the law DriverGrows. -/
import Derived.Test.YtpffbkbadnhmmaaDPLK
import Derived.Test.YtpffbkbadnhmmaaDLawGrows
set_option linter.unusedVariables false
set_option linter.unusedSimpArgs false
set_option maxRecDepth 100000
namespace Go.Proofs.Ytpffbkbadnhmmaa
open Go Go.Eng
structure Grw (c : XCall) (r : XRes) (v' : List XVol) (o : XVol) : Prop where
 gone : (∀ x ∈ v', x.name ≠ o.name) → c.verb = 2 ∧ c.target = o.name ∧ r.err = 0 ∧ o.nodes = []
 there : ∀ x ∈ v', x.name = o.name → o.size ≤ x.size ∧ x.zone = o.zone ∧ x.tag = o.tag ∧ (o.size < x.size → c.verb = 5 ∧ x.size = c.size)
theorem grw_same {c : XCall} {r : XRes} {v : List XVol} (h : Rising XVol.name v) {o : XVol} (ho : o ∈ v) : Grw c r v o := by
 refine ⟨fun hn => absurd rfl (hn o ho), fun x hx e => ?_⟩
 have := rising_uniq XVol.name h hx ho e
 subst this
 exact ⟨Int.le_refl _, rfl, rfl, fun h => absurd h (Int.lt_irrefl _)⟩
theorem grw_step {c : XCall} {z : List XZone} {v : List XVol} {s : List XSnap} {r : XRes} {z' : List XZone} {v' : List XVol} {s' : List XSnap} (hs : Stp c z v s r z' v' s') (h : Rising XVol.name v) {o : XVol} (ho : o ∈ v) : Grw c r v' o := by
 cases hs with
 | keep _ _ => exact grw_same h ho
 | create j y tag sz h1 hn hy hz hs hsz hr =>
  have g := grw_same (c := c) (r := ⟨0, c.size, c.zone, tag⟩) h ho
  refine ⟨fun h' => absurd rfl (h' o ((mem_insR _ _ o v).2 (.inr ho))), fun x hx e => ?_⟩
  rcases (mem_insR _ _ x v).1 hx with rfl | hx
  · exact absurd e.symm (hn o ho)
  · exact g.there x hx e
 | erase i x j y h2 hx hn hl hy hz =>
  have g := grw_same (c := c) (r := default) h ho
  have hmc := mem_cut_nd XVol.name h.nodup hx
  refine ⟨fun h' => ?_, fun w hw e => g.there w ((hmc w).1 hw).1 e⟩
  by_cases he : o.name = x.name
  · have := rising_uniq XVol.name h ho (List.mem_of_getElem? hx) he
    subst this
    exact ⟨h2, hn.symm, rfl, hl⟩
  · exact absurd rfl (h' o ((hmc o).2 ⟨ho, he⟩))
 | nodes i x l hv hx hn =>
  have g := grw_same (c := c) (r := default) h ho
  have hms := mem_set_nd XVol.name h.nodup hx (y := ⟨x.name, x.size, x.zone, x.tag, l⟩)
  refine ⟨fun h' => ?_, fun w hw e => ?_⟩
  · by_cases he : o.name = x.name
    · exact absurd he.symm (h' ⟨x.name, x.size, x.zone, x.tag, l⟩ ((hms ⟨x.name, x.size, x.zone, x.tag, l⟩).2 (.inl rfl)))
    · exact absurd rfl (h' o ((hms o).2 (.inr ⟨ho, he⟩)))
  · rcases (hms w).1 hw with rfl | ⟨hw, _⟩
    · exact g.there x (List.mem_of_getElem? hx) e
    · exact g.there w hw e
 | expand i x j y h5 hx hn hlt hy hz hr =>
  have g := grw_same (c := c) (r := default) h ho
  have hms := mem_set_nd XVol.name h.nodup hx (y := ⟨x.name, c.size, x.zone, x.tag, x.nodes⟩)
  refine ⟨fun h' => ?_, fun w hw e => ?_⟩
  · by_cases he : o.name = x.name
    · exact absurd he.symm (h' ⟨x.name, c.size, x.zone, x.tag, x.nodes⟩ ((hms ⟨x.name, c.size, x.zone, x.tag, x.nodes⟩).2 (.inl rfl)))
    · exact absurd rfl (h' o ((hms o).2 (.inr ⟨ho, he⟩)))
  · rcases (hms w).1 hw with rfl | ⟨hw, _⟩
    · have := rising_uniq XVol.name h (List.mem_of_getElem? hx) ho e
      subst this
      exact ⟨Int.le_of_lt hlt, rfl, rfl, fun _ => ⟨h5, rfl⟩⟩
    · exact g.there w hw e
 | cut x h6 hn hx hs => exact grw_same h ho
 | drop i y h7 hy hn => exact grw_same h ho
theorem len_step {c : XCall} {z : List XZone} {v : List XVol} {s : List XSnap} {r : XRes} {z' : List XZone} {v' : List XVol} {s' : List XSnap} (hs : Stp c z v s r z' v' s') : v'.length ≤ v.length + 1 := by
 cases hs with
 | create j y tag sz h1 hn hy hz hs hsz hr => rw [length_insR]; exact Nat.le_refl _
 | erase i x j y h2 hx hn hl hy hz => exact Nat.le_succ_of_le (cut_sub v i).length_le
 | nodes i x l hv hx hn => rw [List.length_set]; omega
 | expand i x j y h5 hx hn hlt hy hz hr => rw [List.length_set]; omega
 | _ => omega
theorem growsLF_none (n0 n1 n2 : Int) (l : List XDeed) (c : XCall) {b1 : List (ByteArray × Int)} {b2 : List (ByteArray × XVn)} {b3 : List (ByteArray × XSn)} {b4 : List (XTgt × XDone)} {f : Bool} {t : List XZone × List XVol × List XSnap × List XDone} (e : w10_playF n0 n1 n2 l = (f, b1, b2, b3, b4, t))
  {v' : List XVol} (ev : dD_VolumesF (dD_DoF c b1 b2 b3 b4).2.1 (dD_DoF c b1 b2 b3 b4).2.2.1 (dD_DoF c b1 b2 b3 b4).2.2.2.1 (dD_DoF c b1 b2 b3 b4).2.2.2.2 = v') :
  ∀ m : List XVol, (∀ o ∈ m, Grw c (dD_DoF c b1 b2 b3 b4).1 v' o) → w10_DriverGrowsLF n0 n1 n2 l c m = false
 | [], _ => rfl
 | o :: r, h => by
  have ih := growsLF_none n0 n1 n2 l c e ev r fun x hx => h x (List.mem_cons_of_mem _ hx)
  have g := h o List.mem_cons_self
  unfold w10_DriverGrowsLF
  rw [ih, e]
  simp only []
  rw [ev]
  rcases find_at v' o.name with ⟨e', hn⟩ | ⟨x, hx, hxn, e'⟩
  · obtain ⟨g1, g2, g3, g4⟩ := g.gone hn
    rw [e']
    simp only [Bool.not_false, cond_true]
    rw [g1, g2, g3, g4]
    simp
  · obtain ⟨g1, g2, g3, g4⟩ := g.there x hx hxn
    rw [e']
    simp only [Bool.not_true, cond_false]
    rw [decide_eq_false (by omega : ¬ x.size < o.size), g2, g3, decide_eq_true rfl, beq_self_eq_true]
    simp only [Bool.not_true, cond_false]
    by_cases hlt : x.size > o.size
    · obtain ⟨g5, g6⟩ := g4 hlt
      rw [decide_eq_true hlt, g5, g6]
      simp
    · rw [decide_eq_false hlt]
      rfl
theorem grows_true {n0 n1 n2 : Int} (h0 : U8 n0) (h1 : U8 n1) (h2 : U8 n2) (l : List XDeed) (c : XCall) : w10_DriverGrowsF n0 n1 n2 l c = true := by
 obtain ⟨b1, b2, b3, b4, z, v, s, q, e, h, _⟩ := play_ok stays_true h0 h1 h2 trivial l
 obtain ⟨hr, h'⟩ := iv_do h c
 have hd := Do_stp h.1 c (by have := iv_v h; omega) (by have := iv_s h; omega)
 have ev := Volumes_R h'.1
 have hl := iv_v h
 have key : (∀ o ∈ v, Grw c (rD_DoF c z v s q).1 (rD_DoF c z v s q).2.2.1 o) ∧ (rD_DoF c z v s q).2.2.1.length ≤ v.length + 1 := by
  revert hd
  generalize rD_DoF c z v s q = x
  intro hd
  cases hd with
  | no r _ _ => exact ⟨fun o ho => grw_same h.1.v.rise ho, Nat.le_succ _⟩
  | again r _ _ => exact ⟨fun o ho => grw_same h.1.v.rise ho, Nat.le_succ _⟩
  | done r z' v' s' q' hv hs _ _ _ => exact ⟨fun o ho => grw_step hs h.1.v.rise ho, len_step hs⟩
 unfold w10_DriverGrowsF
 rw [live_true, e]
 simp only [Bool.not_true, cond_false]
 rw [Volumes_R h.1, ev, growsLF_none n0 n1 n2 l c e ev v (by rw [hr]; exact key.1)]
 simp only [cond_false]
 have hw : IntKind.i64.wrap ((v.length : Int) + 1) = (v.length : Int) + 1 := by rw [IntKind.wrap_i64]; omega
 rw [hw]
 exact decide_eq_true (by have := key.2; omega)
end Go.Proofs.Ytpffbkbadnhmmaa
