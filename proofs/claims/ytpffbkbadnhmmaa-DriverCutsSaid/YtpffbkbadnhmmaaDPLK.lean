/- The driver, plainly: what one call does to the document's lists. -/
import Derived.Test.YtpffbkbadnhmmaaDPLI
set_option linter.unusedVariables false
set_option linter.unusedSimpArgs false
set_option maxRecDepth 100000
namespace Go.Proofs.Ytpffbkbadnhmmaa
open Go Go.Eng
def Src (s : List XSnap) (v : List XVol) (n : ByteArray) (tag sz : Int) : Prop :=
 (n = (⟨#[]⟩ : ByteArray) ∧ tag = 0 ∧ sz = 0) ∨ (n ≠ (⟨#[]⟩ : ByteArray) ∧ ∃ x ∈ s, x.name = n ∧ tag = x.tag ∧ sz = x.size) ∨
 (n ≠ (⟨#[]⟩ : ByteArray) ∧ (∀ x ∈ s, x.name ≠ n) ∧ ∃ x ∈ v, x.name = n ∧ tag = x.tag ∧ sz = x.size)
inductive Stp (c : XCall) (z : List XZone) (v : List XVol) (s : List XSnap) : XRes → List XZone → List XVol → List XSnap → Prop
 | keep (r : XRes) (h1 : c.verb = 1 → (∀ x ∈ v, x.name ≠ c.target) → r.err ≠ 0)
   (h6 : c.verb = 6 → (∀ x ∈ s, x.name ≠ c.target) → r.err ≠ 0 ∧ ∀ x ∈ v, x.name = c.source → r.err ≠ 5) : Stp c z v s r z v s
 | create (j : Nat) (y : XZone) (tag sz : Int) (h1 : c.verb = 1) (hn : ∀ x ∈ v, x.name ≠ c.target) (hy : z[j]? = some y) (hz : y.name = c.zone)
   (hs : Src s v c.source tag sz) (hsz : sz ≤ c.size) (hr : c.size ≤ y.room) :
   Stp c z v s ⟨0, c.size, c.zone, tag⟩ (z.set j ⟨y.name, IntKind.i64.wrap (y.room - c.size)⟩) (insR XVol.name ⟨c.target, c.size, c.zone, tag, []⟩ v) s
 | erase (i : Nat) (x : XVol) (j : Nat) (y : XZone) (h2 : c.verb = 2) (hx : v[i]? = some x) (hn : x.name = c.target) (hl : x.nodes = []) (hy : z[j]? = some y) (hz : y.name = x.zone) :
   Stp c z v s default (z.set j ⟨y.name, IntKind.i64.wrap (y.room + x.size)⟩) (v.take i ++ v.drop (i + 1)) s
 | nodes (i : Nat) (x : XVol) (l : List ByteArray) (hv : c.verb = 3 ∨ c.verb = 4) (hx : v[i]? = some x) (hn : x.name = c.target) :
   Stp c z v s default z (v.set i ⟨x.name, x.size, x.zone, x.tag, l⟩) s
 | expand (i : Nat) (x : XVol) (j : Nat) (y : XZone) (h5 : c.verb = 5) (hx : v[i]? = some x) (hn : x.name = c.target) (hlt : x.size < c.size) (hy : z[j]? = some y) (hz : y.name = x.zone)
   (hr : c.size - x.size ≤ y.room) :
   Stp c z v s ⟨0, c.size, (⟨#[]⟩ : ByteArray), 0⟩ (z.set j ⟨y.name, IntKind.i64.wrap (y.room - (c.size - x.size))⟩) (v.set i ⟨x.name, c.size, x.zone, x.tag, x.nodes⟩) s
 | cut (x : XVol) (h6 : c.verb = 6) (hn : ∀ y ∈ s, y.name ≠ c.target) (hx : x ∈ v) (hs : x.name = c.source) :
   Stp c z v s ⟨0, x.size, (⟨#[]⟩ : ByteArray), x.tag⟩ z v (insR XSnap.name ⟨c.target, x.size, x.tag⟩ s)
 | drop (i : Nat) (y : XSnap) (h7 : c.verb = 7) (hy : s[i]? = some y) (hn : y.name = c.target) :
   Stp c z v s default z v (s.take i ++ s.drop (i + 1))
def StpP (c : XCall) (z : List XZone) (v : List XVol) (s : List XSnap) (x : R5) : Prop := Stp c z v s x.1 x.2.1 x.2.2.1 x.2.2.2.1
section
variable {b1 : List (ByteArray × Int)} {b2 : List (ByteArray × XVn)} {b3 : List (ByteArray × XSn)} {b4 : List (XTgt × XDone)} {z : List XZone} {v : List XVol} {s : List XSnap} {q : List XDone}
theorem keep_v {c : XCall} (r : XRes) (h1 : c.verb ≠ 1) (h6 : c.verb ≠ 6) : Stp c z v s r z v s := .keep r (fun e => absurd e h1) (fun e => absurd e h6)
theorem create_stp (c : XCall) (hv : c.verb = 1) : StpP c z v s (rD_createF c z v s q) := by
 have h16 : c.verb ≠ 6 := by rw [hv]; decide
 unfold rD_createF
 simp only [createLF_ins, createL1F_ins, createL2F_ins]
 rcases vol_at z v s q c.target with ⟨e, hn⟩ | ⟨i, x, e, hi, hx, hd, hm, hnm⟩
 · rw [e]
   simp only [cond_false, show decide ((-1 : Int) ≥ 0) = false from rfl]
   have bad : ∀ (e : Int), e ≠ 0 → StpP c z v s (r10_failedF e, z, v, s, q) := fun e he => .keep _ (fun _ _ => he) (fun h => absurd h h16)
   rcases zone_at z v s q c.zone with ⟨e2, hn2⟩ | ⟨j, y, e2, hj, hy, hd2, hm2, hnm2⟩
   · rw [e2]
     exact bad 5 (by decide)
   · rw [e2, decide_eq_false (by omega : ¬ (j : Int) < 0), Int.toNat_natCast, hd2]
     simp only [cond_false]
     have fin : ∀ (tag sz : Int), Src s v c.source tag sz → StpP c z v s (cond (decide (sz > c.size)) (r10_failedF 12, z, v, s, q) (cond (decide ((v.length : Int) ≥ (64 : Int))) (r10_failedF 7, z, v, s, q) (cond (decide (y.room < c.size)) (r10_failedF 11, z, v, s, q)
       (cond (!(insL XVol.name ⟨c.target, c.size, c.zone, tag, []⟩ v false []).1) ((⟨(0 : Int), c.size, c.zone, tag⟩ : XRes), (z.set j (⟨y.name, (IntKind.i64.wrap (y.room - c.size))⟩ : XZone)), (insL XVol.name ⟨c.target, c.size, c.zone, tag, []⟩ v false []).2 ++ [⟨c.target, c.size, c.zone, tag, []⟩], s, q)
         ((⟨(0 : Int), c.size, c.zone, tag⟩ : XRes), (z.set j (⟨y.name, (IntKind.i64.wrap (y.room - c.size))⟩ : XZone)), (insL XVol.name ⟨c.target, c.size, c.zone, tag, []⟩ v false []).2, s, q))))) := by
      intro tag sz hs
      cases h1 : decide (sz > c.size) with
      | true => exact bad 12 (by decide)
      | false =>
       simp only [cond_false]
       cases h2 : decide ((v.length : Int) ≥ 64) with
       | true => exact bad 7 (by decide)
       | false =>
        simp only [cond_false]
        cases h3 : decide (y.room < c.size) with
        | true => exact bad 11 (by decide)
        | false =>
         simp only [cond_false]
         rw [insL_two XVol.name ⟨c.target, c.size, c.zone, tag, []⟩ v (fun l => ((⟨(0 : Int), c.size, c.zone, tag⟩ : XRes), (z.set j (⟨y.name, (IntKind.i64.wrap (y.room - c.size))⟩ : XZone)), l, s, q))]
         simp only [decide_eq_false_iff_not] at h1 h3
         exact .create j y tag sz hv hn hy hnm2 hs (by omega) (by omega)
     cases hc : decide (c.source = (⟨#[]⟩ : ByteArray)) with
     | true =>
      simp only [Bool.not_true, cond_false]
      exact fin 0 0 (.inl ⟨of_decide_eq_true hc, rfl, rfl⟩)
     | false =>
      have hne := of_decide_eq_false hc
      simp only [Bool.not_false, cond_true]
      rcases snap_at z v s q c.source with ⟨e3, hn3⟩ | ⟨k, w, e3, hk, hw, hd3, hm3, hnm3⟩
      · rw [e3]
        simp only [cond_false, show decide ((-1 : Int) ≥ 0) = false from rfl]
        rcases vol_at z v s q c.source with ⟨e4, hn4⟩ | ⟨m, u, e4, hm', hu, hd4, hm4, hnm4⟩
        · rw [e4]
          exact bad 5 (by decide)
        · rw [e4, decide_eq_true (by omega : (m : Int) ≥ 0), Int.toNat_natCast, hd4]
          simp only [cond_true]
          exact fin u.tag u.size (.inr (.inr ⟨hne, hn3, u, hm4, hnm4, rfl, rfl⟩))
      · rw [e3, decide_eq_true (by omega : (k : Int) ≥ 0), Int.toNat_natCast, hd3]
        simp only [cond_true]
        exact fin w.tag w.size (.inr (.inl ⟨hne, w, hm3, hnm3, rfl, rfl⟩))
 · rw [e, decide_eq_true (by omega : (i : Int) ≥ 0)]
   simp only [cond_true]
   have ok : ∀ r : XRes, StpP c z v s (r, z, v, s, q) := fun r => .keep _ (fun _ h => absurd hnm (h x hm)) (fun h => absurd h h16)
   cases decide ((v.getD ((i : Int).toNat) default).size < c.size) with
   | true => exact ok _
   | false => exact ok _
theorem cut_stp (c : XCall) (hv : c.verb = 6) : StpP c z v s (rD_cutF c z v s q) := by
 have h16 : c.verb ≠ 1 := by rw [hv]; decide
 have bad : ∀ r : XRes, r.err ≠ 0 → (∀ x ∈ v, x.name = c.source → r.err ≠ 5) → StpP c z v s (r, z, v, s, q) := fun r h0 h5 => .keep r (fun h => absurd h h16) (fun _ _ => ⟨h0, h5⟩)
 unfold rD_cutF
 simp only [cutLF_ins]
 rcases snap_at z v s q c.target with ⟨e, hn⟩ | ⟨i, x, e, hi, hx, hd, hm, hnm⟩
 · rw [e]
   simp only [cond_false, show decide ((-1 : Int) ≥ 0) = false from rfl]
   rcases vol_at z v s q c.source with ⟨e2, hn2⟩ | ⟨i, x, e2, hi, hx, hd, hm, hnm⟩
   · rw [e2]
     exact bad (r10_failedF 5) (by decide) (fun x hx h => absurd h (hn2 x hx))
   · rw [e2, decide_eq_false (by omega : ¬ (i : Int) < 0), Int.toNat_natCast, hd]
     simp only [cond_false]
     cases decide ((s.length : Int) ≥ 64) with
     | true => exact bad (r10_failedF 7) (by decide) (fun _ _ _ => by decide)
     | false =>
      simp only [cond_false]
      rw [insL_two XSnap.name ⟨c.target, x.size, x.tag⟩ s (fun l => ((⟨(0 : Int), x.size, (⟨#[]⟩ : ByteArray), x.tag⟩ : XRes), z, v, l, q))]
      exact .cut x hv hn hm hnm
 · rw [e, decide_eq_true (by omega : (i : Int) ≥ 0)]
   exact .keep _ (fun h => absurd h h16) (fun _ h => absurd hnm (h x hm))
theorem expand_stp (h : RR b1 b2 b3 b4 z v s q) (c : XCall) (hc : 0 ≤ c.size ∧ c.size ≤ 1125899906842624) (hv : c.verb = 5) :
  Stp c z v s (rD_expandF (rD_volF c.target z v s q) c z v s q).1 (rD_expandF (rD_volF c.target z v s q) c z v s q).2.1 (rD_expandF (rD_volF c.target z v s q) c z v s q).2.2 s := by
 have h1 : c.verb ≠ 1 := by rw [hv]; decide
 have h6 : c.verb ≠ 6 := by rw [hv]; decide
 unfold rD_expandF
 rcases vol_at z v s q c.target with ⟨e, hn⟩ | ⟨i, x, e, hi, hx, hd, hm, hnm⟩
 · rw [e]
   exact keep_v _ h1 h6
 · have hxs := h.sz x hm
   rw [e, decide_eq_false (by omega : ¬ (i : Int) < 0), Int.toNat_natCast, hd]
   simp only [cond_false]
   rw [wrap_sub hc hxs]
   cases hge : decide (x.size ≥ c.size) with
   | true => exact keep_v _ h1 h6
   | false =>
    simp only [cond_false]
    rcases zone_at z v s q x.zone with ⟨e2, hn2⟩ | ⟨j, y, e2, hj, hy, hd2, hm2, hnm2⟩
    · obtain ⟨w, hw, hwn⟩ := h.zn x hm
      exact absurd hwn (hn2 w hw)
    · rw [e2, Int.toNat_natCast, hd2]
      cases hr : decide (y.room < c.size - x.size) with
      | true => exact keep_v _ h1 h6
      | false =>
       simp only [cond_false]
       simp only [decide_eq_false_iff_not] at hge hr
       exact .expand i x j y hv hx hnm (by omega) hy hnm2 (by omega)
theorem do_stp (h : RR b1 b2 b3 b4 z v s q) (c : XCall) (hv : driver_RightF c = true) (hlv : v.length ≤ 1000000) (hls : s.length ≤ 1000000) : StpP c z v s (rD_doF c z v s q) := by
 have hsz := right_size hv
 unfold rD_doF
 rcases act_verbs hv with e | e | e | e | e | e | e
 · rw [e]; exact create_stp c e
 · have h1 : c.verb ≠ 1 := by rw [e]; decide
   have h6 : c.verb ≠ 6 := by rw [e]; decide
   have hv2 := e
   rw [e]
   simp only [show ((2 : Int) == 1) = false from rfl, beq_self_eq_true, cond_true, cond_false]
   rcases vol_at z v s q c.target with ⟨e, hn⟩ | ⟨i, x, e, hi, hx, hd, hm, hnm⟩
   · rw [e]; exact keep_v _ h1 h6
   · rw [e, decide_eq_false (by omega : ¬ (i : Int) < 0), Int.toNat_natCast, hd]
     simp only [cond_false]
     cases hl : decide ((x.nodes.length : Int) > 0) with
     | true => exact keep_v _ h1 h6
     | false =>
      simp only [cond_false]
      simp only [decide_eq_false_iff_not] at hl
      rw [wrap_next hi (by omega), cut_eq]
      rcases zone_at z v s q x.zone with ⟨e2, hn2⟩ | ⟨j, y, e2, hj, hy, hd2, hm2, hnm2⟩
      · obtain ⟨w, hw, hwn⟩ := h.zn x hm
        exact absurd hwn (hn2 w hw)
      · rw [e2, Int.toNat_natCast, hd2]
        exact .erase i x j y hv2 hx hnm (List.eq_nil_of_length_eq_zero (by omega)) hy hnm2
 · have h1 : c.verb ≠ 1 := by rw [e]; decide
   have h6 : c.verb ≠ 6 := by rw [e]; decide
   have hv2 := e
   rw [e]
   simp only [show ((3 : Int) == 1) = false from rfl, show ((3 : Int) == 2) = false from rfl, beq_self_eq_true, cond_true, cond_false]
   rcases vol_at z v s q c.target with ⟨e, hn⟩ | ⟨i, x, e, hi, hx, hd, hm, hnm⟩
   · rw [e]; exact keep_v _ h1 h6
   · rw [e, decide_eq_false (by omega : ¬ (i : Int) < 0), Int.toNat_natCast, hd]
     exact .nodes i x _ (.inl hv2) hx hnm
 · have h1 : c.verb ≠ 1 := by rw [e]; decide
   have h6 : c.verb ≠ 6 := by rw [e]; decide
   have hv2 := e
   rw [e]
   simp only [show ((4 : Int) == 1) = false from rfl, show ((4 : Int) == 2) = false from rfl, show ((4 : Int) == 3) = false from rfl, beq_self_eq_true, cond_true, cond_false]
   rcases vol_at z v s q c.target with ⟨e, hn⟩ | ⟨i, x, e, hi, hx, hd, hm, hnm⟩
   · rw [e]; exact keep_v _ h1 h6
   · rw [e, decide_eq_true (by omega : (i : Int) ≥ 0), Int.toNat_natCast, hd]
     exact .nodes i x _ (.inr hv2) hx hnm
 · have hv2 := e
   rw [e]
   simp only [show ((5 : Int) == 1) = false from rfl, show ((5 : Int) == 2) = false from rfl, show ((5 : Int) == 3) = false from rfl, show ((5 : Int) == 4) = false from rfl, beq_self_eq_true, cond_true, cond_false]
   exact expand_stp h c hsz hv2
 · have hv2 := e
   rw [e]; exact cut_stp c hv2
 · have h1 : c.verb ≠ 1 := by rw [e]; decide
   have h6 : c.verb ≠ 6 := by rw [e]; decide
   have hv2 := e
   rw [e]
   simp only [show ((7 : Int) == 1) = false from rfl, show ((7 : Int) == 2) = false from rfl, show ((7 : Int) == 3) = false from rfl, show ((7 : Int) == 4) = false from rfl, show ((7 : Int) == 5) = false from rfl, show ((7 : Int) == 6) = false from rfl, cond_false]
   rcases snap_at z v s q c.target with ⟨e, hn⟩ | ⟨i, x, e, hi, hx, hd, hm, hnm⟩
   · rw [e]; exact keep_v _ h1 h6
   · rw [e, decide_eq_true (by omega : (i : Int) ≥ 0), Int.toNat_natCast, wrap_next hi (by omega), cut_eq]
     exact .drop i x hv2 hx hnm
inductive DoS (c : XCall) (z : List XZone) (v : List XVol) (s : List XSnap) (q : List XDone) : R5 → Prop
 | no (r : XRes) (h0 : r.err ≠ 0) (h5 : r.err ≠ 5) : DoS c z v s q (r, z, v, s, q)
 | again (r : XRes) (hv : driver_RightF c = true) (hq : rD_SeenF c.verb c.target z v s q = c.num) : DoS c z v s q (r, z, v, s, q)
 | done (r : XRes) (z' : List XZone) (v' : List XVol) (s' : List XSnap) (q' : List XDone) (hv : driver_RightF c = true) (hs : Stp c z v s r z' v' s')
   (hq : ∀ d ∈ q', d = ⟨c, r⟩ ∨ d ∈ q) (hc : ⟨c, r⟩ ∈ q') (ho : ∀ d ∈ q, tgtOf d.c ≠ tgtOf c → d ∈ q') : DoS c z v s q (r, z', v', s', q')
theorem Do_stp (h : RR b1 b2 b3 b4 z v s q) (c : XCall) (hlv : v.length ≤ 1000000) (hls : s.length ≤ 1000000) : DoS c z v s q (rD_DoF c z v s q) := by
 unfold rD_DoF
 rw [← Right_eq]
 cases hright : driver_RightF c with
 | false => exact .no _ (by decide) (by decide)
 | true =>
  simp only [Bool.not_true, cond_false]
  have hseen := do_seen c z v s q
  have hd := do_stp h c hright hlv hls
  rcases last_at z v s q c.verb c.target with ⟨e, hn⟩ | ⟨i, x, e, hi, hx, hd', hm, hnm⟩
  · rw [e]
    simp only [show decide ((-1 : Int) ≥ 0) = false from rfl, show decide ((-1 : Int) < 0) = true from rfl, cond_true, cond_false]
    cases decide ((q.length : Int) ≥ 256) with
    | true => exact .no _ (by decide) (by decide)
    | false =>
     simp only [cond_false]
     rw [hseen, DoLF_none c z v s q e, List.nil_append]
     refine .done _ _ _ _ _ hright hd (fun d hd => ?_) (by simp) (fun d hd _ => by simp [hd])
     rcases List.mem_append.1 hd with hd | hd
     · exact .inr hd
     · exact .inl (List.mem_singleton.1 hd)
  · have hS : rD_SeenF c.verb c.target z v s q = x.c.num := by
      unfold rD_SeenF
      rw [e, decide_eq_false (by omega : ¬ (i : Int) < 0), Int.toNat_natCast, hd']
      rfl
    rw [e, Int.toNat_natCast, decide_eq_true (by omega : (i : Int) ≥ 0), decide_eq_false (by omega : ¬ (i : Int) < 0), hd']
    simp only [cond_true, cond_false]
    cases decide (c.num < x.c.num) with
    | true => exact .no _ (by decide) (by decide)
    | false =>
     simp only [cond_false]
     cases hnum : (c.num == x.c.num) with
     | true =>
      have hq : rD_SeenF c.verb c.target z v s q = c.num := by rw [hS, eq_of_beq hnum]
      simp only [cond_true]
      refine bd_cond (P := fun x : R5 => DoS c z v s q x) (fun _ => ?_) (fun _ => ?_)
      · exact .again _ hright hq
      · exact .no _ (by decide) (by decide)
     | false =>
      simp only [cond_false]
      rw [hseen, DoLF_at c z v s q e q 0 [] (Nat.zero_le _), List.nil_append, Nat.sub_zero]
      have hmc := mem_cut_nd (fun d : XDone => tgtOf d.c) h.q.nq hx
      refine .done _ _ _ _ _ hright hd (fun d hd => ?_) (by simp) (fun d hd hne => List.mem_append_left _ ((hmc d).2 ⟨hd, fun he => hne (by rw [he]; exact hnm)⟩))
      rcases List.mem_append.1 hd with hd | hd
      · exact .inr ((hmc d).1 hd).1
      · exact .inl (List.mem_singleton.1 hd)
theorem Put_stp (name node : ByteArray) (tag : Int) : (rD_PutF name node tag z v s q).2 = v ∨ ∃ (i : Nat) (x : XVol), v[i]? = some x ∧ x.name = name ∧ (rD_PutF name node tag z v s q).2 = v.set i ⟨x.name, x.size, x.zone, tag, x.nodes⟩ := by
 unfold rD_PutF
 rcases vol_at z v s q name with ⟨e, hn⟩ | ⟨i, x, e, hi, hx, hd, hm, hnm⟩
 · rw [e]; exact .inl rfl
 · rw [e, decide_eq_false (by omega : ¬ (i : Int) < 0), Int.toNat_natCast, hd]
   simp only [cond_false]
   cases rD_PutLF node x.nodes with
   | true => exact .inr ⟨i, x, hx, hnm, rfl⟩
   | false => exact .inl rfl
end
end Go.Proofs.Ytpffbkbadnhmmaa
