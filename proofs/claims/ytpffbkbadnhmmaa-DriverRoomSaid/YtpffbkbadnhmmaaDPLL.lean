/- The driver, plainly: the law DriverRoom. -/
import Derived.Test.YtpffbkbadnhmmaaDPLK
import Derived.Test.YtpffbkbadnhmmaaDLawRoom
set_option linter.unusedVariables false
set_option linter.unusedSimpArgs false
set_option maxRecDepth 100000
namespace Go.Proofs.Ytpffbkbadnhmmaa
open Go Go.Eng
def wZ (n : ByteArray) (x : XVol) : Int := cond (decide (x.zone = n)) x.size 0
def sumZ (n : ByteArray) : List XVol → Int
 | [] => 0
 | x :: r => wZ n x + sumZ n r
theorem sumZ_ins (n : ByteArray) (y : XVol) : ∀ l : List XVol, sumZ n (insR XVol.name y l) = wZ n y + sumZ n l
 | [] => rfl
 | x :: r => by
  unfold insR
  cases strLess (XVol.name y) (XVol.name x) with
  | true => rfl
  | false =>
   simp only [cond_false, sumZ, sumZ_ins n y r]
   omega
theorem sumZ_cut (n : ByteArray) : ∀ (l : List XVol) (i : Nat) (x : XVol), l[i]? = some x → sumZ n l = wZ n x + sumZ n (l.take i ++ l.drop (i + 1))
 | [], i, x, h => by simp at h
 | y :: r, 0, x, h => by
  simp only [List.getElem?_cons_zero, Option.some.injEq] at h
  subst h
  simp [sumZ]
 | y :: r, i + 1, x, h => by
  simp only [List.getElem?_cons_succ] at h
  simp only [List.take_succ_cons, List.drop_succ_cons, List.cons_append, sumZ, sumZ_cut n r i x h]
  omega
theorem sumZ_set (n : ByteArray) : ∀ (l : List XVol) (i : Nat) (x y : XVol), l[i]? = some x → sumZ n (l.set i y) + wZ n x = sumZ n l + wZ n y
 | [], i, x, y, h => by simp at h
 | w :: r, 0, x, y, h => by
  simp only [List.getElem?_cons_zero, Option.some.injEq] at h
  subst h
  simp only [List.set_cons_zero, sumZ]
  omega
 | w :: r, i + 1, x, y, h => by
  simp only [List.getElem?_cons_succ] at h
  have := sumZ_set n r i x y h
  simp only [List.set_cons_succ, sumZ]
  omega
theorem wZ_nonneg {n : ByteArray} {x : XVol} (h : 0 ≤ x.size) : 0 ≤ wZ n x := by
 unfold wZ
 cases decide (x.zone = n)
 · exact Int.le_refl 0
 · exact h
theorem sumZ_nonneg (n : ByteArray) : ∀ l : List XVol, (∀ x ∈ l, 0 ≤ x.size) → 0 ≤ sumZ n l
 | [], _ => Int.le_refl 0
 | x :: r, h => by
  have h1 := wZ_nonneg (n := n) (h x List.mem_cons_self)
  have h2 := sumZ_nonneg n r fun y hy => h y (List.mem_cons_of_mem _ hy)
  simp only [sumZ]
  omega
theorem wZ_mem (n : ByteArray) {l : List XVol} (h : ∀ x ∈ l, 0 ≤ x.size) {i : Nat} {x : XVol} (hx : l[i]? = some x) : wZ n x ≤ sumZ n l := by
 rw [sumZ_cut n l i x hx]
 have := sumZ_nonneg n (l.take i ++ l.drop (i + 1)) fun y hy => h y ((cut_sub l i).subset hy)
 omega
theorem wZ_same {n : ByteArray} {x y : XVol} (h1 : y.zone = x.zone) (h2 : y.size = x.size) : wZ n y = wZ n x := by
 unfold wZ; rw [h1, h2]
theorem wZ_eq {n : ByteArray} {x : XVol} (h : x.zone = n) : wZ n x = x.size := by
 unfold wZ; rw [decide_eq_true h]; rfl
theorem wZ_ne {n : ByteArray} {x : XVol} (h : x.zone ≠ n) : wZ n x = 0 := by
 unfold wZ; rw [decide_eq_false h]; rfl
structure JZ (z0 z : List XZone) (v : List XVol) : Prop where
 small : ∀ w ∈ z0, w.room ≤ 255
 names : z.map XZone.name = z0.map XZone.name
 sums : ∀ (j : Nat) (y w : XZone), z[j]? = some y → z0[j]? = some w → 0 ≤ y.room ∧ y.room + sumZ y.name v = w.room
theorem JZ.at {z0 z : List XZone} {v : List XVol} (h : JZ z0 z v) {j : Nat} {y : XZone} (hy : z[j]? = some y) : ∃ w, z0[j]? = some w ∧ w.name = y.name := by
 have h1 : (z.map XZone.name)[j]? = some y.name := by rw [List.getElem?_map, hy]; rfl
 rw [h.names, List.getElem?_map] at h1
 cases e : z0[j]? with
 | none => rw [e] at h1; cases h1
 | some w => rw [e] at h1; exact ⟨w, rfl, by simpa using h1⟩
theorem JZ.move {z0 z : List XZone} {v v' : List XVol} (h : JZ z0 z v) (hnd : (z.map XZone.name).Nodup) {j : Nat} {y : XZone} (hy : z[j]? = some y) {r : Int} (hr : 0 ≤ r) (hs : r + sumZ y.name v' = y.room + sumZ y.name v)
  (ho : ∀ n, n ≠ y.name → sumZ n v' = sumZ n v) : JZ z0 (z.set j ⟨y.name, r⟩) v' := by
 refine ⟨h.small, ?_, fun k u w hu hw => ?_⟩
 · rw [map_set_same XZone.name hy (y := ⟨y.name, r⟩) rfl, h.names]
 · by_cases hk : j = k
   · subst hk
     have hl : j < z.length := by
      rcases Nat.lt_or_ge j z.length with hl | hl
      · exact hl
      · rw [List.getElem?_eq_none hl] at hy; cases hy
     rw [List.getElem?_set_self hl] at hu
     simp only [Option.some.injEq] at hu
     subst hu
     obtain ⟨_, h2⟩ := h.sums j y w hy hw
     exact ⟨hr, by show r + sumZ y.name v' = w.room; omega⟩
   · rw [List.getElem?_set_ne hk] at hu
     obtain ⟨h1, h2⟩ := h.sums k u w hu hw
     have hne : u.name ≠ y.name := fun e => hk (nd_at XZone.name hnd hy hu e.symm)
     rw [ho u.name hne]
     exact ⟨h1, h2⟩
theorem JZ.same {z0 z : List XZone} {v v' : List XVol} (h : JZ z0 z v) (ho : ∀ n, sumZ n v' = sumZ n v) : JZ z0 z v' :=
 ⟨h.small, h.names, fun j y w hy hw => by rw [ho]; exact h.sums j y w hy hw⟩
theorem JZ.room {z0 z : List XZone} {v : List XVol} (h : JZ z0 z v) (hv : ∀ x ∈ v, 0 ≤ x.size) {j : Nat} {y : XZone} (hy : z[j]? = some y) : 0 ≤ y.room ∧ y.room + sumZ y.name v ≤ 255 ∧ y.room ≤ 255 := by
 obtain ⟨w, hw, _⟩ := h.at hy
 obtain ⟨h1, h2⟩ := h.sums j y w hy hw
 have h3 := sumZ_nonneg y.name v hv
 have h4 := h.small w (List.mem_of_getElem? hw)
 omega
theorem JZ.step {z0 z : List XZone} {v : List XVol} {s : List XSnap} (h : JZ z0 z v) (hnd : (z.map XZone.name).Nodup) (hv : ∀ x ∈ v, 0 ≤ x.size) {c : XCall} (hc : 0 ≤ c.size) {r : XRes} {z' : List XZone} {v' : List XVol} {s' : List XSnap} (hs : Stp c z v s r z' v' s') : JZ z0 z' v' := by
 cases hs with
 | keep _ _ => exact h
 | create j y tag sz h1 hn hy hz hs hsz hr =>
  have hb := h.room hv hy
  have hw : IntKind.i64.wrap (y.room - c.size) = y.room - c.size := by rw [IntKind.wrap_i64]; omega
  rw [hw]
  refine h.move hnd hy (by omega) ?_ fun n hne => ?_
  · rw [sumZ_ins, wZ_eq (by exact hz.symm)]
    show _ + (c.size + _) = _
    omega
  · rw [sumZ_ins, wZ_ne (by rw [← hz]; exact fun e => hne e.symm)]
    omega
 | erase i x j y h2 hx hn hl hy hz =>
  have hb := h.room hv hy
  have hsx := hv x (List.mem_of_getElem? hx)
  have hin := wZ_mem y.name hv hx
  rw [wZ_eq hz.symm] at hin
  have hw : IntKind.i64.wrap (y.room + x.size) = y.room + x.size := by rw [IntKind.wrap_i64]; omega
  rw [hw]
  refine h.move hnd hy (by omega) ?_ fun n hne => ?_
  · have := sumZ_cut y.name v i x hx
    rw [wZ_eq hz.symm] at this
    omega
  · have := sumZ_cut n v i x hx
    rw [wZ_ne (by rw [← hz]; exact fun e => hne e.symm)] at this
    omega
 | nodes i x l hv' hx hn =>
  refine h.same fun n => ?_
  have := sumZ_set n v i x ⟨x.name, x.size, x.zone, x.tag, l⟩ hx
  rw [wZ_same (n := n) (x := x) (y := ⟨x.name, x.size, x.zone, x.tag, l⟩) rfl rfl] at this
  omega
 | expand i x j y h5 hx hn hlt hy hz hr =>
  have hb := h.room hv hy
  have hsx := hv x (List.mem_of_getElem? hx)
  have hw : IntKind.i64.wrap (y.room - (c.size - x.size)) = y.room - (c.size - x.size) := by rw [IntKind.wrap_i64]; omega
  rw [hw]
  refine h.move hnd hy (by omega) ?_ fun n hne => ?_
  · have := sumZ_set y.name v i x ⟨x.name, c.size, x.zone, x.tag, x.nodes⟩ hx
    rw [wZ_eq hz.symm, wZ_eq (x := ⟨x.name, c.size, x.zone, x.tag, x.nodes⟩) hz.symm] at this
    have e : (XVol.mk x.name c.size x.zone x.tag x.nodes).size = c.size := rfl
    rw [e] at this
    omega
  · have := sumZ_set n v i x ⟨x.name, c.size, x.zone, x.tag, x.nodes⟩ hx
    have hne' : x.zone ≠ n := by rw [← hz]; exact fun e => hne e.symm
    rw [wZ_ne hne', wZ_ne (x := ⟨x.name, c.size, x.zone, x.tag, x.nodes⟩) hne'] at this
    omega
 | cut x h6 hn hx hs => exact h
 | drop i y h7 hy hn => exact h
theorem jz_stays (z0 : List XZone) : Stays fun z v _ _ => JZ z0 z v := by
 constructor
 · intro n b1 b2 b3 b4 z v s q c h hj
   have hd := Do_stp h.1 c (by have := iv_v h; omega) (by have := iv_s h; omega)
   revert hd
   generalize rD_DoF c z v s q = x
   intro hd
   cases hd with
   | no r _ _ => exact hj
   | again r _ _ => exact hj
   | done r z' v' s' q' hv hs _ _ _ => exact hj.step h.1.z.nz (fun x hx => (h.1.sz x hx).1) (right_size hv).1 hs
 · intro n b1 b2 b3 b4 z v s q name node tag h hj
   rcases Put_stp (z := z) (v := v) (s := s) (q := q) name node tag with e | ⟨i, x, hx, _, e⟩
   · rw [e]; exact hj
   · rw [e]
     refine hj.same fun n => ?_
     have := sumZ_set n v i x ⟨x.name, x.size, x.zone, tag, x.nodes⟩ hx
     rw [wZ_same (n := n) (x := x) (y := ⟨x.name, x.size, x.zone, tag, x.nodes⟩) rfl rfl] at this
     omega
theorem roomL1_sum (n0 n1 n2 : Int) (i : Nat) : ∀ (l : List XVol) (a : Int), (∀ x ∈ l, 0 ≤ x.size) → 0 ≤ a → a + sumZ ((w10_zonesF n0 n1 n2).getD i default).name l ≤ 255 → w10_DriverRoomL1F n0 n1 n2 i l a = a + sumZ ((w10_zonesF n0 n1 n2).getD i default).name l
 | [], a, _, _, _ => by simp [w10_DriverRoomL1F, sumZ]
 | x :: r, a, hv, ha, hb => by
  unfold w10_DriverRoomL1F
  have hr := sumZ_nonneg ((w10_zonesF n0 n1 n2).getD i default).name r fun y hy => hv y (List.mem_cons_of_mem _ hy)
  have hx := hv x List.mem_cons_self
  have hv' : ∀ y ∈ r, 0 ≤ y.size := fun y hy => hv y (List.mem_cons_of_mem _ hy)
  simp only [sumZ] at hb ⊢
  by_cases h : x.zone = ((w10_zonesF n0 n1 n2).getD i default).name
  · rw [decide_eq_true h, cond_true]
    rw [wZ_eq h] at hb ⊢
    have hw : IntKind.i64.wrap (a + x.size) = a + x.size := by rw [IntKind.wrap_i64]; omega
    rw [hw, roomL1_sum n0 n1 n2 i r (a + x.size) hv' (by omega) (by omega)]
    omega
  · rw [decide_eq_false h, cond_false]
    rw [wZ_ne h] at hb ⊢
    rw [roomL1_sum n0 n1 n2 i r a hv' ha (by omega)]
    omega
theorem room_true {n0 n1 n2 : Int} (h0 : U8 n0) (h1 : U8 n1) (h2 : U8 n2) (l : List XDeed) : w10_DriverRoomF n0 n1 n2 l = true := by
 have hj0 : JZ (w10_zonesF n0 n1 n2) (w10_zonesF n0 n1 n2) [] := by
  have u8 : ∀ n, U8 n → 0 ≤ IntKind.i64.wrap n ∧ IntKind.i64.wrap n ≤ 255 := fun n h => by
   have h1 := h.1
   have h2 := h.2
   rw [IntKind.wrap_i64]
   omega
  refine ⟨fun w hw => ?_, rfl, fun j y w hy hw => ?_⟩
  · simp only [w10_zonesF, List.mem_cons, List.not_mem_nil, or_false] at hw
    rcases hw with rfl | rfl | rfl
    · exact (u8 _ h0).2
    · exact (u8 _ h1).2
    · exact (u8 _ h2).2
  · rw [hy] at hw
    simp only [Option.some.injEq] at hw
    subst hw
    refine ⟨?_, by simp [sumZ]⟩
    have hm := List.mem_of_getElem? hy
    simp only [w10_zonesF, List.mem_cons, List.not_mem_nil, or_false] at hm
    rcases hm with rfl | rfl | rfl
    · exact (u8 _ h0).1
    · exact (u8 _ h1).1
    · exact (u8 _ h2).1
 obtain ⟨b1, b2, b3, b4, z, v, s, q, e, h, hj⟩ := play_ok (jz_stays (w10_zonesF n0 n1 n2)) h0 h1 h2 hj0 l
 have hv : ∀ x ∈ v, 0 ≤ x.size := fun x hx => (h.1.sz x hx).1
 have key : ∀ n i, i + n = 3 → w10_DriverRoomLF n0 n1 n2 l n i = false := by
  intro n
  induction n with
  | zero => intro i _; rfl
  | succ n ih =>
   intro i hi
   unfold w10_DriverRoomLF
   rw [ih (i + 1) (by omega), e]
   simp only []
   have hl : z.length = 3 := by
    have := congrArg List.length hj.names
    rw [List.length_map, List.length_map, zones_len] at this
    exact this
   obtain ⟨y, hy⟩ : ∃ y, z[i]? = some y := ⟨z[i]'(by omega), List.getElem?_eq_getElem (by omega)⟩
   obtain ⟨w, hw, hwn⟩ := hj.at hy
   have hgd : (w10_zonesF n0 n1 n2).getD i default = w := by rw [List.getD_eq_getElem?_getD, hw]; rfl
   obtain ⟨hr0, hrs⟩ := hj.sums i y w hy hw
   have hb := hj.room hv hy
   have hR : dD_RoomF w.name b1 b2 b3 b4 = (y.room, true) := by
    unfold dD_RoomF
    simp only [mget_str]
    rw [hwn, h.1.z.bwd y (List.mem_of_getElem? hy)]
    rfl
   have hsum := roomL1_sum n0 n1 n2 i v y.room hv hr0 (by rw [hgd, hwn]; omega)
   rw [Volumes_R h.1]
   rw [hgd] at hsum ⊢
   rw [hR]
   simp only []
   rw [hsum, hwn, hrs, decide_eq_false (by omega : ¬ y.room < 0)]
   simp
 unfold w10_DriverRoomF
 rw [live_true, e]
 simp only [Bool.not_true, cond_false]
 rw [key _ _ (by rfl)]
 rfl
end Go.Proofs.Ytpffbkbadnhmmaa
