/- The driver, plainly: names and numbers that a driver has seen. -/
import Derived.Test.YtpffbkbadnhmmaaDPLK
set_option linter.unusedVariables false
set_option linter.unusedSimpArgs false

set_option maxRecDepth 100000
namespace Go.Proofs.Ytpffbkbadnhmmaa
open Go Go.Eng
structure JN (v : List XVol) (s : List XSnap) (q : List XDone) : Prop where
 vn : ∀ x ∈ v, x.name ≠ (⟨#[]⟩ : ByteArray)
 sn : ∀ x ∈ s, x.name ≠ (⟨#[]⟩ : ByteArray)
 nn : ∀ d ∈ q, d.c.num ≠ 0
 kk : ∀ x ∈ s, ∃ d ∈ q, tgtOf d.c = ⟨true, x.name⟩
theorem right_fine {c : XCall} (hv : driver_RightF c = true) : c.target ≠ (⟨#[]⟩ : ByteArray) ∧ c.num ≠ 0 := by
 unfold driver_RightF at hv
 cases hc : (cond (cond (cond (!(object_NameF c.target)) true (c.num == (0 : Int))) true (decide (c.size < (0 : Int)))) true (decide (c.size > (1125899906842624 : Int)))) with
 | true => rw [hc] at hv; cases hv
 | false =>
  simp only [Bool.cond_true_left, Bool.or_eq_false_iff, decide_eq_false_iff_not, Bool.not_eq_false', beq_eq_false_iff_ne] at hc
  obtain ⟨⟨⟨h1, h2⟩, _⟩, _⟩ := hc
  refine ⟨fun e => ?_, h2⟩
  rw [e] at h1
  exact absurd h1 (by decide)
theorem JN.step {z : List XZone} {v : List XVol} {s : List XSnap} {q : List XDone} (h : JN v s q) {c : XCall} (hv : driver_RightF c = true) {r : XRes} {z' : List XZone} {v' : List XVol} {s' : List XSnap} {q' : List XDone} (hs : Stp c z v s r z' v' s')
  (hq : ∀ d ∈ q', d = ⟨c, r⟩ ∨ d ∈ q) (hc : ⟨c, r⟩ ∈ q') (ho : ∀ d ∈ q, tgtOf d.c ≠ tgtOf c → d ∈ q') : JN v' s' q' := by
 obtain ⟨hf1, hf2⟩ := right_fine hv
 have hn : ∀ d ∈ q', d.c.num ≠ 0 := fun d hd => by
  rcases hq d hd with rfl | hd
  · exact hf2
  · exact h.nn d hd
 have hk : ∀ x ∈ s, ∃ d ∈ q', tgtOf d.c = ⟨true, x.name⟩ := fun x hx => by
  obtain ⟨d, hd, e⟩ := h.kk x hx
  by_cases he : tgtOf d.c = tgtOf c
  · exact ⟨_, hc, by rw [← e, he]⟩
  · exact ⟨d, ho d hd he, e⟩
 cases hs with
 | keep _ _ => exact ⟨h.vn, h.sn, hn, hk⟩
 | create j y tag sz h1 _ hy hz hs hsz hr =>
  refine ⟨fun x hx => ?_, h.sn, hn, hk⟩
  rcases (mem_insR _ _ x v).1 hx with rfl | hx
  · exact hf1
  · exact h.vn x hx
 | erase i x j y h2 hx _ hl hy hz => exact ⟨fun w hw => h.vn w ((cut_sub v i).subset hw), h.sn, hn, hk⟩
 | nodes i x l hv hx _ =>
  refine ⟨fun w hw => ?_, h.sn, hn, hk⟩
  rcases List.mem_or_eq_of_mem_set hw with hw | rfl
  · exact h.vn w hw
  · exact h.vn x (List.mem_of_getElem? hx)
 | expand i x j y h5 hx _ hlt hy hz hr =>
  refine ⟨fun w hw => ?_, h.sn, hn, hk⟩
  rcases List.mem_or_eq_of_mem_set hw with hw | rfl
  · exact h.vn w hw
  · exact h.vn x (List.mem_of_getElem? hx)
 | cut x h6 _ hx hs =>
  refine ⟨h.vn, fun y hy => ?_, hn, fun y hy => ?_⟩
  · rcases (mem_insR _ _ y s).1 hy with rfl | hy
    · exact hf1
    · exact h.sn y hy
  · rcases (mem_insR _ _ y s).1 hy with rfl | hy
    · refine ⟨_, hc, ?_⟩
      show tgtOf c = ⟨true, c.target⟩
      unfold tgtOf
      rw [h6]
      rfl
    · exact hk y hy
 | drop i y h7 hy _ => exact ⟨h.vn, fun w hw => h.sn w ((cut_sub s i).subset hw), hn, fun w hw => hk w ((cut_sub s i).subset hw)⟩
theorem jn_stays : Stays fun _ v s q => JN v s q := by
 constructor
 · intro n b1 b2 b3 b4 z v s q c h hj
   have hd := Do_stp h.1 c (by have := iv_v h; omega) (by have := iv_s h; omega)
   revert hd
   generalize rD_DoF c z v s q = x
   intro hd
   cases hd with
   | no r _ _ => exact hj
   | again r _ _ => exact hj
   | done r z' v' s' q' hv hs hq hc ho => exact hj.step hv hs hq hc ho
 · intro n b1 b2 b3 b4 z v s q name node tag h hj
   rcases Put_stp (z := z) (v := v) (s := s) (q := q) name node tag with e | ⟨i, x, hx, _, e⟩
   · rw [e]; exact hj
   · rw [e]
     refine ⟨fun w hw => ?_, hj.sn, hj.nn, hj.kk⟩
     rcases List.mem_or_eq_of_mem_set hw with hw | rfl
     · exact hj.vn w hw
     · exact hj.vn x (List.mem_of_getElem? hx)
theorem jn_empty : JN [] [] [] := ⟨(fun x hx => by cases hx), (fun x hx => by cases hx), (fun x hx => by cases hx), (fun x hx => by cases hx)⟩
theorem find_uniq {v : List XVol} (h : Rising XVol.name v) {x : XVol} (hx : x ∈ v) {n : ByteArray} (hn : x.name = n) : w10_findF v n = (x, true) := by
 rcases find_at v n with ⟨_, h'⟩ | ⟨y, hy, hyn, e⟩
 · exact absurd hn (h' x hx)
 · rw [e, rising_uniq XVol.name h hy hx (by rw [hyn, hn])]
theorem find_none {v : List XVol} {n : ByteArray} (hn : ∀ x ∈ v, x.name ≠ n) : w10_findF v n = (default, false) := by
 rcases find_at v n with ⟨e, _⟩ | ⟨y, hy, hyn, _⟩
 · exact e
 · exact absurd hyn (hn y hy)
end Go.Proofs.Ytpffbkbadnhmmaa
