/- Attachments: an insert in a vector of one's own, as the engine knows it. -/
import Derived.Test.YtbcnehpndoghcaaEC
import Derived.Test.YtbcnehpndoghcaaDIns1
import Derived.Test.YtbcnehpndoghcaaDIns
set_option linter.unusedVariables false
set_option linter.unusedSimpArgs false
set_option maxRecDepth 100000
namespace Go.Eng
open Go Go.RowKit
def insK (k : Kind) (bs : Nat) (args : List AV) (hr : List AObj) (nid : Nat) : Option Out := match args with
  | [.vec id, .int .i64 i, .vec id2] => match hget hr id, hget hr id2 with
    | .vec false c, .vec false d => if c.k = k ∧ d.len = 1 ∧ id ≠ id2 then match c.ins d i.toNat with
      | some c' => some (.vec nid, deadOf (some id) ++ [(nid, .vec false c')], [0 ≤ i ∧ i ≤ c.len ∧ (c.len + 1) * bs ≤ bytesLim ∧ c.len + 1 ≤ maxLen])
      | none => none
      else none
    | _, _ => none
  | _ => none
theorem ins_end {c d c' : Coll} (h : c.ins d c.len = some c') : c.append d = some c' := by
  obtain ⟨k, xs⟩ := c
  obtain ⟨k', ys⟩ := d
  unfold Coll.ins at h
  unfold Coll.append
  split at h
  case isFalse => cases h
  rename_i e
  simp only at e
  subst e
  simp only [Coll.len, Option.some.injEq] at h ⊢
  subst h
  simp
end Go.Eng
namespace Go.Proofs.Ytbcnehpndoghcaa
open Go Go.Eng Go.RowKit
theorem insertO_sound {args : List AV} {hr : List AObj} {nid : Nat} {x : AV} {effs : Eff} {need : List Prop} (hK : insK .obj 192 args hr nid = some (x, effs, need)) (hn : ∀ p ∈ need, p) : KSound Try.prog 62 args hr nid x effs := by
  intro B w0 M0 h w ρ M vs H hle hfr hargs
  unfold insK at hK
  split at hK
  case h_2 => cases hK
  rename_i id i id2
  split at hK
  case h_2 => cases hK
  rename_i c d hc hd
  split at hK
  case isFalse => cases hK
  rename_i hcd
  obtain ⟨hk, hd1, hne⟩ := hcd
  split at hK
  case h_2 => cases hK
  rename_i c' hins
  simp only [Option.some.injEq, Prod.mk.injEq] at hK
  obtain ⟨rfl, rfl, rfl⟩ := hK
  obtain ⟨h0, hi, hby, hml⟩ := hn _ List.mem_cons_self
  obtain ⟨n, rfl⟩ : ∃ n : Nat, i = n := ⟨i.toNat, by omega⟩
  rw [Int.toNat_natCast] at hins
  have hi : n ≤ c.len := by omega
  have hid : ρ nid = none := hfr (nid, .vec false c') (by simp) (Nat.le_refl _)
  have hlim : bytesLim = 140737488355328 := rfl
  have hmx : maxLen = 9223372036854775807 := by decide
  match vs, hargs with
  | [v0, v1, v2], hargs =>
    simp only [repL, and_true] at hargs
    obtain ⟨r0, r1, r2⟩ := hargs
    simp only [rep] at r1
    subst r1
    obtain ⟨hh, hho⟩ := base_hdr H hle (k := .obj) (m := true) (b := some id) (f := false) (c := c) (by simp [baseOf, hc]) r0
    have hs := src_reads H hle (k := .obj) (y := .vec id2) (d := d) (by simp [srcOf, hd]) r2
    obtain ⟨hh2, _⟩ := base_hdr H hle (k := .obj) (m := true) (b := some id2) (f := false) (c := d) (by simp [baseOf, hd]) r2
    have hes : c.esz = 20 := by unfold Coll.esz; rw [hk]; rfl
    have hdk : d.k = c.k := by unfold Coll.ins at hins; split at hins; assumption; cases hins
    have hde : d.esz = 20 := by unfold Coll.esz; rw [hdk, hk]; rfl
    rcases hh2.ok with ⟨_, h0'⟩ | ⟨rb, cap2, va, tv, ib2, hib2, rfl, q2, q3, q4, q5, q6, q7, q8, q9⟩
    · omega
    injection hib2 with hib2
    subst hib2
    rw [hd1] at q5 hs ⊢
    have hval : 20 ≤ va.length := by rw [q4, hde]; omega
    have hvl : (va.take 20).length = 20 := by rw [List.length_take]; omega
    have hve : elems M d (va.take 20) := elems_take q7 (fun m hm => by rw [List.getElem?_take, if_pos (by rw [hd1, hde] at hm; omega)])
    have h1v : ∀ v ∈ va.take 20, v.oneCell' = true := by
      have := elems_one q7
      rw [hd1, hde, Nat.one_mul] at this
      exact this
    rcases Nat.eq_or_lt_of_le hi with he | hlt
    · -- at the end
      subst he
      have happ := ins_end hins
      obtain ⟨i0, z, hi0, hz0, hzc, _⟩ := zero_of (P := Try.prog) M (e := 37) (k := .obj) (by kernel_rfl)
      have hs0 : i0.size = 20 := by
        have : (Try.prog.info? 37).map (·.size) = some 20 := by kernel_rfl
        rw [hi0] at this; simpa using this
      have hb0 : i0.bytes = 192 := by
        have : (Try.prog.info? 37).map (·.bytes) = some 192 := by kernel_rfl
        rw [hi0] at this; simpa using this
      obtain ⟨v', w', ρ', M', hrun, k1, k2, k3, k4⟩ := run_append_vec H (P := Try.prog) (t := 22) (tx := 22) (ty := 22) Try.underlying22 Try.underlying22 hi0 hz0 happ (by rw [hs0, hes]) (by rw [hzc, hes]; rfl) hh (by rw [hd1]; exact hs) (by rw [hd1, hb0]; exact hby) (by rw [hd1]; exact hml) nid hid
      rcases hh.ok with ⟨rfl, h00⟩ | ⟨r, cap, zs, tb, ib, hib, rfl, p2, p3, p4, p5, p6, p7, p8, p9⟩
      · rw [h00]
        refine (Try.insertO_end none 0 0 rb cap2 v' w w' (fun _ => ⟨rfl, rfl⟩) (Nat.le_refl _) (by omega) hrun).mono ?_
        rintro e w'' ⟨rfl, rfl⟩
        exact ⟨v', ρ', M', rfl, k1, k2, k3, k4⟩
      · refine (Try.insertO_end (some ⟨r, 0, none⟩) c.len cap rb cap2 v' w w' (fun h => by cases h) p5 (by omega) hrun).mono ?_
        rintro e w'' ⟨rfl, rfl⟩
        exact ⟨v', ρ', M', rfl, k1, k2, k3, k4⟩
    · rcases hh.ok with ⟨rfl, h00⟩ | ⟨r, cap, zs, tb, ib, hib, rfl, p2, p3, p4, p5, p6, p7, p8, p9⟩
      · omega
      injection hib with hib
      subst hib
      have hrr : rb ≠ r := by
        rintro rfl
        rw [q2] at p2
        injection p2 with p2
        exact hne p2.symm
      have hle1 : c.len * c.esz ≤ zs.length := by rw [p4]; exact Nat.mul_le_mul_right _ p5
      obtain ⟨hev, hl', hk'⟩ := elems_ins hins hi p7 hle1 hve (by rw [hvl, hd1, hes])
      have hes' : c'.esz = 20 := by unfold Coll.esz; rw [hk', hk]; rfl
      have h1c : ∀ v ∈ zs.take (c.len * 20), v.oneCell' = true := by
        have := elems_one p7
        rw [hes] at this
        exact this
      rw [hd1] at hl'
      rw [hes] at hev p4
      by_cases hroom : c.len + 1 ≤ cap
      · refine (Try.insertO_shift r c.len cap n rb cap2 zs (va.take 20) tb tv w hlt hroom (by omega) hrr p3 p4 va q3 rfl hvl h1c h1v).mono ?_
        rintro e w' ⟨rfl, us, rfl, g1, g2⟩
        obtain ⟨ρ', a1, a2, a3⟩ := fin_put H.drew (c := c) (c' := c') (us := us) p2 p3 (fun off => p8 off (.inl rfl)) (cap := cap) (by rw [g1, p4, hes']) (by rw [hl']; exact hroom) p6 (elems_take hev (fun m hm => g2 m (by rw [hl', hes'] at hm; omega))) hid
        rw [hl'] at a3
        exact ⟨_, ρ', M, rfl, a1, Mem.le_refl _, a2, a3⟩
      · refine (Try.insertO_grow r c.len cap n rb cap2 zs (va.take 20) tb tv w hlt p5 (by omega) (by omega) hml p3 p4 va q3 rfl hvl h1c h1v).mono ?_
        rintro e w' ⟨us, nc, rfl, rfl, g1, g3, g4, g2⟩
        obtain ⟨ρ', a1, a2, a3⟩ := fin_new H.drew.drew (id := id) (c' := c') (us := us) (e := 37) (cap := nc) (by rw [g1, hes']) (by rw [hl']; exact g3) g4 (elems_take hev (fun m hm => g2 m (by rw [hl', hes'] at hm; omega))) hid
        rw [hl'] at a3
        exact ⟨_, ρ', M, rfl, a1, Mem.le_refl _, a2, a3⟩
theorem insertS_sound {args : List AV} {hr : List AObj} {nid : Nat} {x : AV} {effs : Eff} {need : List Prop} (hK : insK .str 16 args hr nid = some (x, effs, need)) (hn : ∀ p ∈ need, p) : KSound Try.prog 59 args hr nid x effs := by
  intro B w0 M0 h w ρ M vs H hle hfr hargs
  unfold insK at hK
  split at hK
  case h_2 => cases hK
  rename_i id i id2
  split at hK
  case h_2 => cases hK
  rename_i c d hc hd
  split at hK
  case isFalse => cases hK
  rename_i hcd
  obtain ⟨hk, hd1, hne⟩ := hcd
  split at hK
  case h_2 => cases hK
  rename_i c' hins
  simp only [Option.some.injEq, Prod.mk.injEq] at hK
  obtain ⟨rfl, rfl, rfl⟩ := hK
  obtain ⟨h0, hi, hby, hml⟩ := hn _ List.mem_cons_self
  obtain ⟨n, rfl⟩ : ∃ n : Nat, i = n := ⟨i.toNat, by omega⟩
  rw [Int.toNat_natCast] at hins
  have hi : n ≤ c.len := by omega
  have hid : ρ nid = none := hfr (nid, .vec false c') (by simp) (Nat.le_refl _)
  have hlim : bytesLim = 140737488355328 := rfl
  have hmx : maxLen = 9223372036854775807 := by decide
  match vs, hargs with
  | [v0, v1, v2], hargs =>
    simp only [repL, and_true] at hargs
    obtain ⟨r0, r1, r2⟩ := hargs
    simp only [rep] at r1
    subst r1
    obtain ⟨hh, hho⟩ := base_hdr H hle (k := .str) (m := true) (b := some id) (f := false) (c := c) (by simp [baseOf, hc]) r0
    have hs := src_reads H hle (k := .str) (y := .vec id2) (d := d) (by simp [srcOf, hd]) r2
    obtain ⟨hh2, _⟩ := base_hdr H hle (k := .str) (m := true) (b := some id2) (f := false) (c := d) (by simp [baseOf, hd]) r2
    have hes : c.esz = 1 := by unfold Coll.esz; rw [hk]; rfl
    have hdk : d.k = c.k := by unfold Coll.ins at hins; split at hins; assumption; cases hins
    have hde : d.esz = 1 := by unfold Coll.esz; rw [hdk, hk]; rfl
    rcases hh2.ok with ⟨_, h0'⟩ | ⟨rb, cap2, va, tv, ib2, hib2, rfl, q2, q3, q4, q5, q6, q7, q8, q9⟩
    · omega
    injection hib2 with hib2
    subst hib2
    rw [hd1] at q5 hs ⊢
    have hval : 1 ≤ va.length := by rw [q4, hde]; omega
    have hvl : (va.take 1).length = 1 := by rw [List.length_take]; omega
    have hve : elems M d (va.take 1) := elems_take q7 (fun m hm => by rw [List.getElem?_take, if_pos (by rw [hd1, hde] at hm; omega)])
    have h1v : ∀ v ∈ va.take 1, v.oneCell' = true := by
      have := elems_one q7
      rw [hd1, hde, Nat.one_mul] at this
      exact this
    rcases Nat.eq_or_lt_of_le hi with he | hlt
    · -- at the end
      subst he
      have happ := ins_end hins
      obtain ⟨i0, z, hi0, hz0, hzc, _⟩ := zero_of (P := Try.prog) M (e := 9) (k := .str) (by kernel_rfl)
      have hs0 : i0.size = 1 := by
        have : (Try.prog.info? 9).map (·.size) = some 1 := by kernel_rfl
        rw [hi0] at this; simpa using this
      have hb0 : i0.bytes = 16 := by
        have : (Try.prog.info? 9).map (·.bytes) = some 16 := by kernel_rfl
        rw [hi0] at this; simpa using this
      obtain ⟨v', w', ρ', M', hrun, k1, k2, k3, k4⟩ := run_append_vec H (P := Try.prog) (t := 26) (tx := 26) (ty := 26) Try.underlying26 Try.underlying26 hi0 hz0 happ (by rw [hs0, hes]) (by rw [hzc, hes]; rfl) hh (by rw [hd1]; exact hs) (by rw [hd1, hb0]; exact hby) (by rw [hd1]; exact hml) nid hid
      rcases hh.ok with ⟨rfl, h00⟩ | ⟨r, cap, zs, tb, ib, hib, rfl, p2, p3, p4, p5, p6, p7, p8, p9⟩
      · rw [h00]
        refine (Try.insertS_end none 0 0 rb cap2 v' w w' (fun _ => ⟨rfl, rfl⟩) (Nat.le_refl _) (by omega) hrun).mono ?_
        rintro e w'' ⟨rfl, rfl⟩
        exact ⟨v', ρ', M', rfl, k1, k2, k3, k4⟩
      · refine (Try.insertS_end (some ⟨r, 0, none⟩) c.len cap rb cap2 v' w w' (fun h => by cases h) p5 (by omega) hrun).mono ?_
        rintro e w'' ⟨rfl, rfl⟩
        exact ⟨v', ρ', M', rfl, k1, k2, k3, k4⟩
    · rcases hh.ok with ⟨rfl, h00⟩ | ⟨r, cap, zs, tb, ib, hib, rfl, p2, p3, p4, p5, p6, p7, p8, p9⟩
      · omega
      injection hib with hib
      subst hib
      have hrr : rb ≠ r := by
        rintro rfl
        rw [q2] at p2
        injection p2 with p2
        exact hne p2.symm
      have hle1 : c.len * c.esz ≤ zs.length := by rw [p4]; exact Nat.mul_le_mul_right _ p5
      obtain ⟨hev, hl', hk'⟩ := elems_ins hins hi p7 hle1 hve (by rw [hvl, hd1, hes])
      have hes' : c'.esz = 1 := by unfold Coll.esz; rw [hk', hk]; rfl
      have h1c : ∀ v ∈ zs.take (c.len * 1), v.oneCell' = true := by
        have := elems_one p7
        rw [hes] at this
        exact this
      rw [hd1] at hl'
      rw [hes] at hev p4
      simp only [Nat.mul_one] at hev
      by_cases hroom : c.len + 1 ≤ cap
      · refine (Try.insertS_shift r c.len cap n rb cap2 zs (va.take 1) tb tv w hlt hroom (by omega) hrr p3 (by rw [p4]; omega) va q3 rfl hvl (by rw [← Nat.mul_one c.len]; exact h1c) h1v).mono ?_
        rintro e w' ⟨rfl, us, rfl, g1, g2⟩
        obtain ⟨ρ', a1, a2, a3⟩ := fin_put H.drew (c := c) (c' := c') (us := us) p2 p3 (fun off => p8 off (.inl rfl)) (cap := cap) (by rw [g1, p4, hes']) (by rw [hl']; exact hroom) p6 (elems_take hev (fun m hm => g2 m (by rw [hl', hes'] at hm; omega))) hid
        rw [hl'] at a3
        exact ⟨_, ρ', M, rfl, a1, Mem.le_refl _, a2, a3⟩
      · refine (Try.insertS_grow r c.len cap n rb cap2 zs (va.take 1) tb tv w hlt p5 (by omega) (by omega) hml p3 (by rw [p4]; omega) va q3 rfl hvl (by rw [← Nat.mul_one c.len]; exact h1c) h1v).mono ?_
        rintro e w' ⟨us, nc, rfl, rfl, g1, g3, g4, g2⟩
        obtain ⟨ρ', a1, a2, a3⟩ := fin_new H.drew.drew (id := id) (c' := c') (us := us) (e := 9) (cap := nc) (by rw [g1, hes']; omega) (by rw [hl']; exact g3) g4 (elems_take hev (fun m hm => g2 m (by rw [hl', hes'] at hm; omega))) hid
        rw [hl'] at a3
        exact ⟨_, ρ', M, rfl, a1, Mem.le_refl _, a2, a3⟩
end Go.Proofs.Ytbcnehpndoghcaa
