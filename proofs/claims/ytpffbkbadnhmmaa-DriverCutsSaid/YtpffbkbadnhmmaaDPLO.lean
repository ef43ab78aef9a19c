/- The driver, plainly: the law DriverCuts. -/
import Derived.Test.YtpffbkbadnhmmaaDPLN0
import Derived.Test.YtpffbkbadnhmmaaDLawCuts
set_option linter.unusedVariables false
set_option linter.unusedSimpArgs false
set_option maxRecDepth 100000
namespace Go.Proofs.Ytpffbkbadnhmmaa
open Go Go.Eng
section
variable {b1 : List (ByteArray × Int)} {b2 : List (ByteArray × XVn)} {b3 : List (ByteArray × XSn)} {b4 : List (XTgt × XDone)} {z : List XZone} {v : List XVol} {s : List XSnap} {q : List XDone}
theorem put_there (h : Rising XVol.name v) {x : XVol} (hx : x ∈ v) {node : ByteArray} (hm : node ∈ x.nodes) (tag : Int) :
  (rD_PutF x.name node tag z v s q).1 = 0 ∧ ∃ y ∈ (rD_PutF x.name node tag z v s q).2, y.name = x.name ∧ y.nodes = x.nodes := by
 unfold rD_PutF
 rcases vol_at z v s q x.name with ⟨e, hn⟩ | ⟨i, y, e, hi, hy, hd, hym, hnm⟩
 · exact absurd rfl (hn x hx)
 · have hyx := rising_uniq XVol.name h hym hx hnm
   subst hyx
   rw [e, decide_eq_false (by omega : ¬ (i : Int) < 0), Int.toNat_natCast, hd, (PutLF_mem node y.nodes).2 hm]
   simp only [cond_false, cond_true]
   exact ⟨trivial, _, (mem_set_nd XVol.name h.nodup hy _).2 (.inl rfl), rfl, rfl⟩
theorem cutsLF_ok (n0 n1 n2 : Int) (l : List XDeed) (x : XDeed) {f : Bool} {c1 : List (ByteArray × Int)} {c2 : List (ByteArray × XVn)} {c3 : List (ByteArray × XSn)} {c4 : List (XTgt × XDone)} {t : List XZone × List XVol × List XSnap × List XDone} (e : w10_playF n0 n1 n2 l = (f, c1, c2, c3, c4, t))
  {u : XVol} (hu : (w10_findF (dD_VolumesF c1 c2 c3 c4) x.c.source).1 = u) {R : XRes} {d2 : List (ByteArray × XVn)} (hD : dD_DoF ⟨6, x.c.target, x.c.num, x.c.size, x.c.zone, x.c.node, x.c.source⟩ c1 c2 c3 c4 = (R, b1, d2, b3, b4)) {n : Nat} :
  ∀ (m : List ByteArray) (b2 : List (ByteArray × XVn)) (v : List XVol), (∀ o ∈ m, o ∈ u.nodes) → IV n b1 b2 b3 b4 z v s q → (∃ y ∈ v, y.name = u.name ∧ y.nodes = u.nodes) →
   (w10_DriverCutsLF n0 n1 n2 l x m b2).1 = false ∧ ∃ v', IV n b1 (w10_DriverCutsLF n0 n1 n2 l x m b2).2 b3 b4 z v' s q
 | [], b2, v, _, h, _ => ⟨rfl, v, h⟩
 | o :: r, b2, v, hm, h, ⟨y, hy, hyn, hys⟩ => by
  obtain ⟨hp, hi⟩ := iv_put h u.name o x.tag
  have hpt := put_there (z := z) (s := s) (q := q) h.1.v.rise hy (node := o) (by rw [hys]; exact hm o List.mem_cons_self) x.tag
  rw [hyn, hys] at hpt
  have ih := cutsLF_ok n0 n1 n2 l x e hu hD r _ _ (fun a ha => hm a (List.mem_cons_of_mem _ ha)) hi hpt.2
  unfold w10_DriverCutsLF
  rw [e]
  simp only []
  rw [hu, hD]
  simp only []
  rw [hp, hpt.1]
  exact ih
theorem cutsL1F_at (n0 n1 n2 : Int) (l : List XDeed) (x : XDeed) {f : Bool} {c1 : List (ByteArray × Int)} {c2 : List (ByteArray × XVn)} {c3 : List (ByteArray × XSn)} {c4 : List (XTgt × XDone)} {t : List XZone × List XVol × List XSnap × List XDone} (e : w10_playF n0 n1 n2 l = (f, c1, c2, c3, c4, t))
  {u : XVol} (hu : (w10_findF (dD_VolumesF c1 c2 c3 c4) x.c.source).1 = u) (hD : (dD_DoF ⟨6, x.c.target, x.c.num, x.c.size, x.c.zone, x.c.node, x.c.source⟩ c1 c2 c3 c4).1 = ⟨0, u.size, (⟨#[]⟩ : ByteArray), u.tag⟩) :
  ∀ (m : List XSnap), (∀ y ∈ m, y.name = x.c.target → y = ⟨x.c.target, u.size, u.tag⟩) → (∃ y ∈ m, y.name = x.c.target) → w10_DriverCutsL1F n0 n1 n2 l x m = (true, true)
 | [], _, ⟨y, hy, _⟩ => by cases hy
 | o :: r, hm, ⟨y, hy, hyn⟩ => by
  unfold w10_DriverCutsL1F
  by_cases ho : o.name = x.c.target
  · have hoe := hm o List.mem_cons_self ho
    subst hoe
    rw [decide_eq_true ho, e]
    simp only [cond_true]
    rw [hu, hD]
    simp
  · rw [decide_eq_false ho, cond_false]
    rcases List.mem_cons.1 hy with rfl | hy
    · exact absurd hyn ho
    · exact cutsL1F_at n0 n1 n2 l x e hu hD r (fun w hw => hm w (List.mem_cons_of_mem _ hw)) ⟨y, hy, hyn⟩
end
theorem cuts_true {n0 n1 n2 : Int} (h0 : U8 n0) (h1 : U8 n1) (h2 : U8 n2) (l : List XDeed) (x : XDeed) : w10_DriverCutsF n0 n1 n2 l x = true := by
 obtain ⟨b1, b2, b3, b4, z, v, s, q, e, h, hj⟩ := play_ok jn_stays h0 h1 h2 jn_empty l
 have eV := Volumes_R h.1
 unfold w10_DriverCutsF
 rw [live_true, e]
 simp only [Bool.not_true, cond_false]
 rw [eV, Seen_R h.1]
 obtain ⟨hr, h'⟩ := iv_do h ⟨6, x.c.target, x.c.num, x.c.size, x.c.zone, x.c.node, x.c.source⟩
 have hd := Do_stp h.1 ⟨6, x.c.target, x.c.num, x.c.size, x.c.zone, x.c.node, x.c.source⟩ (by have := iv_v h; omega) (by have := iv_s h; omega)
 cases hs : (rD_SeenF 6 x.c.target z v s q == 0) with
 | false => rfl
 | true =>
  have hs := eq_of_beq hs
  simp only [Bool.not_true, cond_false]
  rcases find_at v x.c.source with ⟨ef, hn⟩ | ⟨u, hu, hun, ef⟩
  · rw [ef]; rfl
  · rw [ef]
    simp only [Bool.not_true, cond_false]
    have hnew : ∀ w ∈ s, w.name ≠ x.c.target := by
     intro w hw hwn
     obtain ⟨d, hd, hdt⟩ := hj.kk w hw
     rw [hwn] at hdt
     unfold rD_SeenF at hs
     rcases last_at z v s q 6 x.c.target with ⟨e', hn'⟩ | ⟨i, y, e', hi, hy, hd', hm', hnm'⟩
     · exact hn' d hd hdt
     · rw [e', decide_eq_false (by omega : ¬ (i : Int) < 0), Int.toNat_natCast, hd'] at hs
       exact hj.nn y hm' hs
    have hfu : (w10_findF (dD_VolumesF b1 b2 b3 b4) x.c.source).1 = u := by rw [eV, ef]
    have hL1 := cutsL1F_at n0 n1 n2 l x e hfu
    generalize hD : dD_DoF ⟨6, x.c.target, x.c.num, x.c.size, x.c.zone, x.c.node, x.c.source⟩ b1 b2 b3 b4 = D at hr h' hL1 ⊢
    obtain ⟨R, d1, d2, d3, d4⟩ := D
    revert hd hr h'
    generalize rD_DoF ⟨6, x.c.target, x.c.num, x.c.size, x.c.zone, x.c.node, x.c.source⟩ z v s q = X
    intro hd hr h'
    have bad : ∀ r : XRes, r.err ≠ 0 → r.err ≠ 5 → R = r → ∀ a b : Bool, cond (!(R.err == 0)) (cond a true (!(R.err == 5))) b = true := by
     rintro r k0 k5 rfl a b
     rw [beq_eq_false_iff_ne.2 k0, beq_eq_false_iff_ne.2 k5]
     cases a <;> rfl
    cases hd with
    | no r k0 k5 => exact bad r k0 k5 hr _ _
    | again r hv hq =>
     have hq' : rD_SeenF 6 x.c.target z v s q = x.c.num := hq
     exact absurd (by rw [← hq', hs]) (right_fine hv).2
    | done r z' v' s' q' hv hs' _ _ _ =>
     cases hs' with
     | keep _ _ hk6 =>
      obtain ⟨k0, k5⟩ := hk6 rfl hnew
      exact bad r k0 (k5 u hu hun) hr _ _
     | cut u' _ _ hu' hsn =>
      have := rising_uniq XVol.name h.1.v.rise hu' hu (by rw [hsn, hun])
      subst this
      replace hr : R = ⟨0, u'.size, (⟨#[]⟩ : ByteArray), u'.tag⟩ := hr
      subst hr
      simp only [beq_self_eq_true, Bool.not_true, cond_false]
      obtain ⟨hf, v'', hi⟩ := cutsLF_ok n0 n1 n2 l x e hfu hD u'.nodes d2 v (fun _ ho => ho) h' ⟨u', hu', rfl, rfl⟩
      rw [hf]
      simp only [cond_false]
      rw [Snaps_R hi.1]
      have hm : ∀ y ∈ insR XSnap.name ⟨x.c.target, u'.size, u'.tag⟩ s, y.name = x.c.target → y = ⟨x.c.target, u'.size, u'.tag⟩ := by
       intro y hy hyn
       rcases (mem_insR _ _ y s).1 hy with rfl | hy
       · rfl
       · exact absurd hyn (hnew y hy)
      have hL := hL1 rfl _ hm ⟨_, (mem_insR _ _ _ s).2 (.inl rfl), rfl⟩
      rw [hL]
      rfl
     | create j y tag sz hv1 hn' hy hz hsrc hsz hroom => exact absurd (show (6 : Int) = 1 from hv1) (by decide)
     | erase i x j y h2 hx hn hl hy hz => exact absurd (show (6 : Int) = 2 from h2) (by decide)
     | nodes i x l hv hx hn => exact hv.elim (fun e => absurd (show (6 : Int) = 3 from e) (by decide)) (fun e => absurd (show (6 : Int) = 4 from e) (by decide))
     | expand i x j y h5 hx hn hlt hy hz hr => exact absurd (show (6 : Int) = 5 from h5) (by decide)
     | drop i y h7 hy hn => exact absurd (show (6 : Int) = 7 from h7) (by decide)
end Go.Proofs.Ytpffbkbadnhmmaa
