/- The engine, part 7: slices and maps of one's own. -/
import Derived.Test.YtnfmnipckcidlaaDoorE6
import Derived.Deep.AppendSrc
import Derived.Laws.MakeOwn
set_option linter.unusedVariables false
set_option linter.unusedSimpArgs false
namespace Go.Eng
open Go.RowKit (Below)

section
variable {P : Program} {B : Nat → Prop} {w0 w : World} {M0 M : Mem} {h hr : List AObj} {ρ : Loc}

/-! ### Rows of cells -/
theorem spliceV_get (o : Nat) (us : List Value) : ∀ (vs : List Value) (k : Nat), o + us.length ≤ vs.length → (spliceV vs o us)[k]? = if o ≤ k ∧ k < o + us.length then us[k - o]? else vs[k]? := by
  induction o with
  | zero =>
    intro vs k hl
    simp only [spliceV, Nat.zero_add] at hl ⊢
    by_cases hk : k < us.length
    · rw [List.getElem?_append_left hk, if_pos ⟨Nat.zero_le _, hk⟩, Nat.sub_zero]
    · rw [List.getElem?_append_right (by omega), if_neg (by omega), List.getElem?_drop]
      congr 1; omega
  | succ o ih =>
    intro vs k hl
    cases vs with
    | nil => simp at hl
    | cons v vs =>
      simp only [spliceV]
      cases k with
      | zero => simp
      | succ k =>
        simp only [List.getElem?_cons_succ]
        rw [ih vs k (by simp at hl; omega)]
        by_cases hc : o ≤ k ∧ k < o + us.length
        · rw [if_pos hc, if_pos (by omega), show k + 1 - (o + 1) = k - o from by omega]
        · rw [if_neg hc, if_neg (by omega)]
theorem fold_splice (off : Nat) : ∀ (us : List Value) (zs : List Value) (k : Nat), off + k + us.length ≤ zs.length → ((us.zipIdx k).foldl (fun cs (x : Value × Nat) => cs.setIfInBounds (off + x.2) x.1) (⟨zs⟩ : Array Value)) = ⟨spliceV zs (off + k) us⟩
  | [], zs, k, _ => by simp [splice_nil]
  | u :: us, zs, k, hk => by
    simp only [List.zipIdx_cons, List.foldl_cons]
    have : (⟨zs⟩ : Array Value).setIfInBounds (off + k) u = ⟨zs.set (off + k) u⟩ := by simp
    rw [this, fold_splice off us (zs.set (off + k) u) (k + 1) (by simp at hk ⊢; omega), show off + (k + 1) = (off + k) + 1 from by omega, splice_set _ _ _ _ (by simp at hk; omega)]
theorem Coll.get_some {c : Coll} {i j : Nat} {x : AV} (hx : (c.get i)[j]? = some x) : j < c.esz := by
  rw [← c.get_length i]; exact (List.getElem?_eq_some_iff.1 hx).1
theorem repE_one {x : AV} {u : Value} (hx : (∃ c : Coll, x = .coll c) ∨ x.isSc = true) (h : repE M x u) : u.oneCell' = true := by
  rcases hx with ⟨c, rfl⟩ | hs
  · obtain ⟨a, cap, rfl, _⟩ := h; rfl
  · cases x <;> simp [AV.isSc] at hs <;> simp only [repE, sc] at h <;> subst h <;> rfl
theorem Coll.get_cell {c : Coll} {i j : Nat} {x : AV} (hx : (c.get i)[j]? = some x) : (∃ c' : Coll, x = .coll c') ∨ x.isSc = true :=
  (c.k.enc_cell _ j x hx).imp (fun ⟨c, h, _⟩ => ⟨c, h⟩) id
theorem elems_one {c : Coll} {vs : List Value} (he : elems M c vs) : ∀ u ∈ vs.take (c.len * c.esz), u.oneCell' = true := by
  intro u hu
  obtain ⟨m, hm, hu⟩ := List.mem_iff_getElem.1 hu
  have hlt : m < c.len * c.esz := by simp at hm; omega
  have hp : 0 < c.esz := c.k.esz_pos
  have hi : m / c.esz < c.len := by rw [Nat.div_lt_iff_lt_mul hp]; exact hlt
  have hj : m % c.esz < (c.get (m / c.esz)).length := by rw [c.get_length]; exact Nat.mod_lt _ hp
  obtain ⟨u', h1, h2⟩ := he (m / c.esz) hi (m % c.esz) _ (List.getElem?_eq_getElem hj)
  have : m / c.esz * c.esz + m % c.esz = m := by rw [Nat.mul_comm]; exact Nat.div_add_mod _ _
  rw [this] at h1
  rw [List.getElem_take] at hu
  rw [List.getElem?_eq_getElem (by simp at hm; omega)] at h1
  injection h1 with h1
  rw [← hu, h1]
  exact repE_one (Coll.get_cell (List.getElem?_eq_getElem hj)) h2
/-- The elements of c are read in the world from (b, o) on. -/
def readsW (w : World) (M : Mem) (c : Coll) (b o : Nat) : Prop := ∀ (i : Nat), i < c.len → ∀ (j : Nat) (x : AV), (c.get i)[j]? = some x → ∃ u : Value, w.cell? ⟨b, o + i * c.esz + j, none⟩ = some u ∧ repE M x u
theorem readsW.row {c : Coll} {b o : Nat} (hr : readsW w M c b o) : ∃ news : List Value, news.length = c.len * c.esz ∧ (∀ m u, news[m]? = some u → w.cell? ⟨b, o + m, none⟩ = some u) ∧ elems M c news := by
  have hp : 0 < c.esz := c.k.esz_pos
  have key : ∀ m, m < c.len * c.esz → ∃ u, w.cell? ⟨b, o + m, none⟩ = some u := by
    intro m hlt
    have hi : m / c.esz < c.len := by rw [Nat.div_lt_iff_lt_mul hp]; exact hlt
    have hj : m % c.esz < (c.get (m / c.esz)).length := by rw [c.get_length]; exact Nat.mod_lt _ hp
    obtain ⟨u', h1, h2⟩ := hr (m / c.esz) hi (m % c.esz) _ (List.getElem?_eq_getElem hj)
    have : o + m / c.esz * c.esz + m % c.esz = o + m := by rw [Nat.add_assoc, Nat.mul_comm, Nat.div_add_mod]
    rw [this] at h1
    exact ⟨u', h1⟩
  refine ⟨(List.range (c.len * c.esz)).map fun m => (w.cell? ⟨b, o + m, none⟩).getD undef, by simp, ?_, ?_⟩
  · intro m u hm
    rw [List.getElem?_map] at hm
    cases hq : (List.range (c.len * c.esz))[m]? with
    | none => rw [hq] at hm; cases hm
    | some q =>
      rw [hq] at hm
      obtain ⟨hlt, rfl⟩ := List.getElem?_eq_some_iff.1 hq
      simp at hlt
      simp only [Option.map_some, Option.some.injEq, List.getElem_range] at hm
      obtain ⟨u', hu'⟩ := key m hlt
      rw [hu'] at hm ⊢
      rw [← hm]; rfl
  · intro i hi j x hx
    obtain ⟨u, h1, h2⟩ := hr i hi j x hx
    have hj := Coll.get_some hx
    have hlt : i * c.esz + j < c.len * c.esz := by
      have : (i + 1) * c.esz ≤ c.len * c.esz := Nat.mul_le_mul_right _ hi
      rw [Nat.add_mul] at this; omega
    refine ⟨u, ?_, h2⟩
    rw [List.getElem?_map, List.getElem?_range hlt]
    simp only [Option.map_some]
    rw [← Nat.add_assoc, h1]; rfl
theorem elems_append {c d c' : Coll} (hc : c.append d = some c') {vs us : List Value} (hl : vs.length = c.len * c.esz) (h1 : elems M c vs) (h2 : elems M d us) : elems M c' (vs ++ us) ∧ c'.len = c.len + d.len ∧ c'.k = c.k ∧ d.k = c.k := by
  obtain ⟨k, xs⟩ := c
  obtain ⟨k', ys⟩ := d
  unfold Coll.append at hc
  split at hc
  · rename_i hk
    simp only at hk
    subst hk
    injection hc with hc
    subst hc
    refine ⟨?_, by simp [Coll.len], rfl, rfl⟩
    intro i hi j x hx
    have hj := Coll.get_some hx
    simp only [Coll.len, Coll.esz, Coll.get] at *
    rcases Nat.lt_or_ge i xs.length with hlt | hge
    · have hx' : (k'.enc (xs.getD i default))[j]? = some x := by
        rw [← hx]; congr 2; simp only [List.getD_eq_getElem?_getD]; rw [List.getElem?_append_left hlt]
      obtain ⟨u, g1, g2⟩ := h1 i hlt j x hx'
      refine ⟨u, ?_, g2⟩
      simp only [Coll.esz] at g1 ⊢
      rw [List.getElem?_append_left (by exact (List.getElem?_eq_some_iff.1 g1).1)]
      exact g1
    · have hlt2 : i - xs.length < ys.length := by simp at hi; omega
      have hx' : (k'.enc (ys.getD (i - xs.length) default))[j]? = some x := by
        rw [← hx]; congr 2; simp only [List.getD_eq_getElem?_getD]; rw [List.getElem?_append_right hge]
      obtain ⟨u, g1, g2⟩ := h2 (i - xs.length) hlt2 j x hx'
      refine ⟨u, ?_, g2⟩
      simp only [Coll.esz] at g1 ⊢
      have e : i * k'.esz = xs.length * k'.esz + (i - xs.length) * k'.esz := by rw [← Nat.add_mul]; congr 1; omega
      rw [List.getElem?_append_right (by rw [hl]; omega), hl, ← g1]
      congr 1
      omega
  · cases hc
theorem elems_take {c : Coll} {vs us : List Value} (h : elems M c vs) (hs : ∀ m, m < c.len * c.esz → us[m]? = vs[m]?) : elems M c us := by
  intro i hi j x hx
  obtain ⟨u, h1, h2⟩ := h i hi j x hx
  have hj := Coll.get_some hx
  have hlt : i * c.esz + j < c.len * c.esz := by
    have : (i + 1) * c.esz ≤ c.len * c.esz := Nat.mul_le_mul_right _ hi
    rw [Nat.add_mul] at this; omega
  exact ⟨u, by rw [hs _ hlt]; exact h1, h2⟩

/-! ### Letting go of a slice -/
/-- The cells of block r below n are told. -/
def Mem.told (M : Mem) (r n : Nat) (vs : List Value) : Mem := fun b o => if b = r ∧ o < n then vs[o]? else M b o
theorem Mem.told_le {M : Mem} {r n : Nat} {vs : List Value} (h : ∀ o v, o < n → M r o = some v → vs[o]? = some v) : M.le (M.told r n vs) := by
  intro b o v hv
  unfold Mem.told
  split
  · rename_i hc; obtain ⟨rfl, hc⟩ := hc; exact h o v hc hv
  · exact hv
theorem freeze_vec (H : SimH B w0 M0 h w ρ M) {id : Nat} {c : Coll} (ho : hget h id = .vec false c) : ∃ M', M.le M' ∧ SimH B w0 M0 (hset h id (.vec true c)) w ρ M' := by
  have hobj := H.obj id
  rw [ho] at hobj
  obtain ⟨hv, g1, g2⟩ := hobj
  rcases g2 with g2 | ⟨r, cap, vs, t, rfl, k2, k3, k4, k5, k6, k7, k8, _⟩
  · exact ⟨M, Mem.le_refl _, H.update id _ (fun _ _ => rfl) (Loc.le_refl _) (Mem.le_refl _) ⟨hv, g1, .inl g2⟩ (fun _ _ _ _ hr => ⟨hr, rfl, fun _ h => h⟩) (fun r i hr => H.own r i hr) H.mem (fun _ _ _ => rfl) (Keeps.refl _ _)⟩
  · have hle : M.le (M.told r (c.len * c.esz) vs) := Mem.told_le fun o v _ hv => by rw [k8 o (.inl rfl)] at hv; cases hv
    refine ⟨_, hle, H.update id _ (fun _ _ => rfl) (Loc.le_refl _) hle ?_ ?_ (fun r i hr => H.own r i hr) ?_ ?_ (Keeps.refl _ _)⟩
    · refine ⟨_, g1, .inr ⟨r, cap, vs, t, rfl, k2, k3, k4, k5, k6, elems_mono hle k7, fun off ho => ?_, fun _ off u ho hu => ?_⟩⟩
      · rcases ho with ho | ho
        · cases ho
        · unfold Mem.told; rw [if_neg (by omega)]; exact k8 off (.inl rfl)
      · unfold Mem.told; rw [if_pos ⟨rfl, ho⟩]; exact hu
    · intro i r' hne hd hr
      refine ⟨hr, rfl, fun off ho => ?_⟩
      unfold Mem.told
      rw [if_neg]
      · exact ho
      · rintro ⟨rfl, _⟩
        rw [k2] at hr
        injection hr with hr
        exact hne hr.symm
    · intro b o v hv
      unfold Mem.told at hv
      split at hv
      · rename_i hc; obtain ⟨rfl, _⟩ := hc; rw [cell_of_block k3]; exact hv
      · exact H.mem b o v hv
    · intro b o hb
      unfold Mem.told
      rw [if_neg]
      rintro ⟨rfl, _⟩
      exact (H.own _ _ k2).1 hb

/-! ### Sources of an append -/
theorem src_reads (H : SimH B w0 M0 h w ρ M) (hle : ∀ id, hget hr id ≠ .dead → hget h id = hget hr id) {k : Kind} {y : AV} {d : Coll} {v : Value} (hs : srcOf hr k y = some d) (hv : rep ρ M noG y v) :
    ∃ a cap, v = .slice a d.len cap ∧ (0 < d.len → ∃ b o, a = some ⟨b, o, none⟩ ∧ readsW w M d b o) := by
  unfold srcOf at hs
  split at hs
  · injection hs with hs; subst hs
    simp only [rep] at hv; subst hv
    exact ⟨none, 0, rfl, fun h => absurd h (Nat.lt_irrefl 0)⟩
  · injection hs with hs; subst hs
    simp only [rep] at hv
    obtain ⟨a, cap, rfl, _, h3⟩ := hv
    refine ⟨a, cap, rfl, fun h0 => ?_⟩
    obtain ⟨b, o, rfl, hrd⟩ := h3 h0
    refine ⟨b, o, rfl, fun i hi j x hx => ?_⟩
    obtain ⟨u, hu, hm⟩ := hrd i hi j x hx
    refine ⟨u, H.mem _ _ _ hu, ?_⟩
    cases x <;> first | exact hm | exact repC_down hm
  · rename_i id
    split at hs
    · rename_i f c hc
      injection hs with hs; subst hs
      have hobj := H.obj id
      rw [hle id (by rw [hc]; simp), hc] at hobj
      obtain ⟨hh, g1, g2⟩ := hobj
      simp only [rep] at hv
      have hv := hv.2
      rw [g1] at hv
      injection hv with hv
      injection hv with hv
      subst hv
      rcases g2 with ⟨rfl, g2⟩ | ⟨r, cap, vs, t, rfl, k2, k3, k4, k5, k6, k7, _⟩
      · exact ⟨none, 0, by rw [g2], fun h => by omega⟩
      · refine ⟨_, cap, rfl, fun _ => ⟨r, 0, rfl, fun i hi j x hx => ?_⟩⟩
        obtain ⟨u, hu, hm⟩ := k7 i hi j x hx
        exact ⟨u, by rw [cell_of_block k3, Nat.zero_add]; exact hu, hm⟩
    · cases hs
  · rename_i id esz lo hi
    split at hs
    · rename_i f c hc
      split at hs
      · rename_i he
        injection hs with hs; subst hs
        have hobj := H.obj id
        rw [hle id (by rw [hc]; simp), hc] at hobj
        obtain ⟨hh, g1, g2⟩ := hobj
        simp only [rep] at hv
        obtain ⟨hlo, hd, a, cap, e1, rfl, e3⟩ := hv
        rw [g1] at e1
        injection e1 with e1
        injection e1 with e1
        subst e1
        subst he
        rcases Nat.lt_or_ge lo hi with hlt | hge
        · obtain ⟨r, n, cap', rfl, hn, rfl⟩ := e3 hlt
          rcases g2 with ⟨g2, _⟩ | ⟨r', cap2, vs, t, e, k2, k3, k4, k5, k6, k7, _⟩
          · cases g2
          · injection e with e1 e2 e4
            injection e1 with e1
            injection e1 with e1
            subst e1; subst e2; subst e4
            have hlen : (c.sub lo hi).len = hi - lo := by simp [Coll.sub, Coll.len] at hn ⊢; omega
            refine ⟨_, cap, by rw [hlen], fun _ => ⟨r, lo * c.esz, rfl, fun i hi' j x hx => ?_⟩⟩
            have hx' : (c.get (lo + i))[j]? = some x := by
              rw [← hx]
              simp only [Coll.get, Coll.sub]
              congr 2
              simp only [List.getD_eq_getElem?_getD]
              rw [List.getElem?_drop, List.getElem?_take, if_pos (by omega)]
              rfl
            obtain ⟨u, hu, hm⟩ := k7 (lo + i) (by omega) j x hx'
            refine ⟨u, ?_, hm⟩
            rw [cell_of_block k3, ← hu, Nat.add_mul]
            rfl
        · have hlen : (c.sub lo hi).len = 0 := by simp [Coll.sub, Coll.len]; omega
          exact ⟨a, cap, by rw [hlen, show hi - lo = 0 from by omega], fun h => by omega⟩
      · cases hs
    · cases hs
  · cases hs
theorem src_of {tx e' : TypeId} (hk : P.underlying tx = some (.slice e')) {d : Coll} {v : Value} (hs : ∃ a cap, v = .slice a d.len cap ∧ (0 < d.len → ∃ b o, a = some ⟨b, o, none⟩ ∧ readsW w M d b o)) :
    ∃ news : List Value, Src P d.esz tx v d.len news w ∧ elems M d news ∧ news.length = d.len * d.esz := by
  obtain ⟨a, cap, rfl, hrd⟩ := hs
  rcases Nat.eq_zero_or_pos d.len with h0 | hp
  · refine ⟨[], ?_, fun i hi => by omega, by simp [h0]⟩
    rw [h0]
    cases a with
    | none => exact Src.ofNil w hk cap
    | some a => exact Src.ofSlice w hk a 0 cap [] (by simp) (by simp) (by simp)
  · obtain ⟨b, o, rfl, hrw⟩ := hrd hp
    obtain ⟨news, h1, h2, h3⟩ := hrw.row
    refine ⟨news, Src.ofSlice w hk ⟨b, o, none⟩ d.len cap news h1 (fun j u hj => by rw [Addr.add_lit]; exact h2 j u hj) fun u hu => ?_, h3, h1⟩
    have := elems_one h3 u
    rw [← h1, List.take_length] at this
    exact this hu
end
end Go.Eng
