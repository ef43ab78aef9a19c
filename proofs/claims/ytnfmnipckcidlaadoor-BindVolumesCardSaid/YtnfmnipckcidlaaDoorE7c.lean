/- The engine, part 7c: slices that are made, cut, written to. -/
import Derived.Test.YtnfmnipckcidlaaDoorE7b
set_option linter.unusedVariables false
set_option linter.unusedSimpArgs false
namespace Go.Eng
open Go.RowKit (Below)

section
variable {P : Program} {B : Nat → Prop} {w0 w : World} {M0 M : Mem} {h hr : List AObj} {ρ : Loc} {t : List AV} {a : Act}

/-- A new slice of its own. -/
theorem new_vec (H : SimH B w0 M0 h w ρ M) {nid : Nat} (hid : ρ nid = none) (f : Bool) (c : Coll) (vs : List Value) (cap : Nat) (e : TypeId) (hl : vs.length = cap * c.esz) (hc : c.len ≤ cap) (hm : cap ≤ maxLen) (he : elems M c vs) :
    ∃ ρ' M', ρ.only ρ' [(nid, .vec f c)] ∧ M.le M' ∧ SimH B w0 M0 (hset h nid (.vec f c)) (w.alloc (.cells ⟨vs⟩ e)) ρ' M' ∧ rep ρ' M' noG (.vec nid) (.slice (some ⟨w.heap.size, 0, none⟩) c.len cap) := by
  have hfr : ∀ off, M w.heap.size off = none := fun off => Mem.none_new H (Nat.le_refl _) off
  have hnew : (w.alloc (.cells ⟨vs⟩ e)).heap[w.heap.size]? = some (.cells ⟨vs⟩ e (0, 0)) := heap_alloc_new w _
  have hnB : ¬ B w.heap.size := fun hb => Nat.lt_irrefl _ (H.size _ hb)
  obtain ⟨M', hM', hMl, hMo, hMi⟩ : ∃ M', M' = (if f then M.told w.heap.size (c.len * c.esz) vs else M) ∧ M.le M' ∧ (∀ b o, b ≠ w.heap.size → M' b o = M b o) ∧ (∀ o v, M' w.heap.size o = some v → vs[o]? = some v ∧ f = true ∧ o < c.len * c.esz) := by
    refine ⟨_, rfl, ?_, ?_, ?_⟩
    · split
      · exact Mem.told_le fun o v _ hv => by rw [hfr o] at hv; cases hv
      · exact Mem.le_refl _
    · intro b o hb; split
      · unfold Mem.told; rw [if_neg (fun hc => hb hc.1)]
      · rfl
    · intro o v hv; split at hv
      · rename_i hf
        unfold Mem.told at hv
        split at hv
        · rename_i hc; exact ⟨hv, hf, hc.2⟩
        · rw [hfr o] at hv; cases hv
      · rw [hfr o] at hv; cases hv
  refine ⟨ρ.put nid (.hdr (.slice (some ⟨w.heap.size, 0, none⟩) c.len cap)) w.heap.size, M', Loc.only_put hid _ _ (List.mem_singleton_self _), hMl, ?_, ?_⟩
  · refine H.take nid hid _ _ w.heap.size (fun i hi => absurd (H.own _ _ hi).2 (Nat.lt_irrefl _)) hnB (by simp) (fun k _ hk => Below.heap_alloc w _ k hk) ((Keeps.refl _ _).alloc H.size _) hMl hMo ?_ ?_
    · intro o v hv; rw [cell_of_block hnew]; exact (hMi o v hv).1
    · refine ⟨.slice (some ⟨w.heap.size, 0, none⟩) c.len cap, by simp [Loc.put], .inr ⟨w.heap.size, cap, vs, e, rfl, by simp [Loc.put], hnew, hl, hc, hm, elems_mono hMl he, ?_, ?_⟩⟩
      · intro off ho
        cases hm : M' w.heap.size off with
        | none => rfl
        | some v =>
          obtain ⟨_, h2, h3⟩ := hMi off v hm
          rcases ho with ho | ho
          · rw [h2] at ho; cases ho
          · omega
      · intro hf off u' ho hu'
        rw [hM', if_pos hf]
        unfold Mem.told
        rw [if_pos ⟨rfl, ho⟩]
        exact hu'
  · simp only [rep]
    exact ⟨⟨_, _, _, rfl⟩, by simp [Loc.put]⟩
/-- A nil slice is one of its own. -/
theorem new_nil (H : SimH B w0 M0 h w ρ M) {nid : Nat} (hid : ρ nid = none) (f : Bool) (k : Kind) :
    ∃ ρ', ρ.only ρ' [(nid, .vec f ⟨k, []⟩)] ∧ SimH B w0 M0 (hset h nid (.vec f ⟨k, []⟩)) w ρ' M ∧ rep ρ' M noG (.vec nid) (.slice none 0 0) := by
  refine ⟨ρ.put0 nid (.hdr (.slice none 0 0)), Loc.only_put0 hid _ _ (List.mem_singleton_self _), ?_, ?_⟩
  · exact H.update nid _ (fun i hi => by simp [Loc.put0, hi]) (Loc.le_put0 hid) (Mem.le_refl _) ⟨.slice none 0 0, by simp [Loc.put0], .inl ⟨rfl, rfl⟩⟩ (fun i r _ _ hr => ⟨hr, rfl, fun _ h => h⟩) (fun r i hr => H.own r i hr) H.mem (fun _ _ _ => rfl) (Keeps.refl _ _)
  · simp only [rep]
    exact ⟨⟨_, _, _, rfl⟩, by simp [Loc.put0]⟩

theorem alloc_nil {P : Program} (H : SimH B w0 M0 h w ρ M) {t : TypeId} {z : AV} {id off : Nat} {y : AV} (hz : tzero P t = some z) (hid : ρ id = none) (hoff : z.cells[off]? = some .nils) (hy : rep ρ M noG y (.slice none 0 0)) :
    ∃ w', (Instr.alloc t true (.tuple #[])).run P w = .ok (.pointer (some ⟨w.heap.size, 0, none⟩)) w' ∧ SimH B w0 M0 (hset h id (.cells t (z.cells.set off y))) w' (ρ.put id (.blk w.heap.size) w.heap.size) M := by
  unfold tzero at hz
  cases hi : P.info? t with
  | none => rw [hi] at hz; cases hz
  | some i =>
    rw [hi] at hz
    simp only [Option.bind_some] at hz
    cases hzz : i.zero with
    | none => rw [hzz] at hz; cases hz
    | some zv =>
      rw [hzz] at hz
      injection hz with hz
      subst hz
      have h1 := cells_avOf (ρ := ρ) (M := M) zv
      obtain ⟨v, hv, hr⟩ := repL_get h1 off _ hoff
      simp only [rep] at hr
      subst hr
      have key : ∀ (xs : List AV) (vs : List Value) (i : Nat), repL ρ M noG xs vs → vs[i]? = some (.slice none 0 0) → repL ρ M noG (xs.set i y) vs := by
        intro xs
        induction xs with
        | nil => intro vs i h _; simpa using h
        | cons x xs ih =>
          intro vs i h k
          cases vs with
          | nil => simp [repL] at h
          | cons v vs =>
            simp only [repL] at h
            cases i with
            | zero =>
              simp only [List.getElem?_cons_zero, Option.some.injEq] at k
              subst k
              simp only [List.set_cons_zero, repL]
              exact ⟨hy, h.2⟩
            | succ i => simp only [List.set_cons_succ, repL]; exact ⟨h.1, ih vs i h.2 (by simpa using k)⟩
      refine ⟨_, ?_, H.alloc id hid t _ _ (key _ _ off h1 hv)⟩
      simp only [Instr.alloc, Sem.run_bind, run_zeroValue hi hzz, Result.andThen_ok, run_newVar, Sem.run_pure]
theorem sameZL_length : ∀ {xs ys : List AV}, sameZL xs ys = true → xs.length = ys.length
  | [], [], _ => rfl
  | _ :: xs, _ :: ys, h => by simp only [sameZL, Bool.and_eq_true] at h; simp [sameZL_length h.2]
  | [], _ :: _, h => by simp [sameZL] at h
  | _ :: _, [], h => by simp [sameZL] at h
theorem sameZ_repE {x y : AV} {u : Value} (h : sameZ x y = true) (hu : rep ρ M noG y u) : repE M x u := by
  unfold sameZ at h
  split at h
  · simp only [Bool.and_eq_true, decide_eq_true_eq, beq_iff_eq] at h
    obtain ⟨rfl, rfl⟩ := h
    simpa [repE, sc, rep] using hu
  · simp only [beq_iff_eq] at h; subst h
    simpa [repE, sc, rep] using hu
  · rename_i s s'
    simp only [Bool.and_eq_true, beq_iff_eq] at h
    have : s = s' := by
      obtain ⟨⟨a⟩⟩ := s; obtain ⟨⟨b⟩⟩ := s'
      have h1 : a = [] := by have := h.1; simpa [ByteArray.size] using this
      have h2 : b = [] := by have := h.2; simpa [ByteArray.size] using this
      rw [h1, h2]
    subst this
    simpa [repE, sc, rep] using hu
  · rename_i c
    simp only [beq_iff_eq] at h
    simp only [rep] at hu
    subst hu
    exact ⟨none, 0, by rw [h], by omega, fun h0 => by omega⟩
  · cases h
theorem sameZL_get : ∀ {xs ys : List AV} {us : List Value}, sameZL xs ys = true → repL ρ M noG ys us → ∀ (j : Nat) (x : AV), xs[j]? = some x → ∃ u, us[j]? = some u ∧ repE M x u
  | [], _, _, _, _, j, x, hx => by simp at hx
  | _ :: _, [], _, h, _, _, _, _ => by simp [sameZL] at h
  | _ :: _, _ :: _, [], _, h, _, _, _ => by simp [repL] at h
  | x :: xs, y :: ys, u :: us, h, hu, 0, z, hz => by
    simp only [sameZL, Bool.and_eq_true] at h
    simp only [repL] at hu
    simp at hz; subst hz
    exact ⟨u, rfl, sameZ_repE h.1 hu.1⟩
  | x :: xs, y :: ys, u :: us, h, hu, j + 1, z, hz => by
    simp only [sameZL, Bool.and_eq_true] at h
    simp only [repL] at hu
    simpa using sameZL_get h.2 hu.2 j z (by simpa using hz)
theorem zero_of (M : Mem) {e : TypeId} {k : Kind} (hz : zeroOk P e k = true) : ∃ i z, P.info? e = some i ∧ i.zero = some z ∧ z.cells.size = k.esz ∧ repX M k default z.cells.toList ∧ repV M k default z := by
  unfold zeroOk tzero at hz
  cases hi : P.info? e with
  | none => rw [hi] at hz; cases hz
  | some i =>
    rw [hi] at hz
    simp only [Option.bind_some] at hz
    cases hzz : i.zero with
    | none => rw [hzz] at hz; cases hz
    | some z =>
      rw [hzz] at hz
      simp only [Option.map_some, Bool.and_eq_true, beq_iff_eq] at hz
      obtain ⟨hg, hz⟩ := hz
      have hc := cells_avOf (ρ := ⟨fun _ => none, fun _ => none⟩) (M := M) z
      have hl : z.cells.toList.length = k.esz := by rw [← repL_length hc, ← sameZL_length hz, k.enc_length]
      have hX : repX M k default z.cells.toList := ⟨hl, fun j y hy => sameZL_get hz hc j y hy⟩
      refine ⟨i, z, rfl, hzz, by simpa using hl, hX, ?_, hX⟩
      have hav : ∀ v : Value, aggAV (av1 v) = false := fun v => by unfold av1; split <;> rfl
      split
      · rename_i ha
        rw [ha] at hg
        unfold avOf at hg
        split at hg
        · exact ⟨_, rfl⟩
        · rw [hav] at hg; cases hg
      · rename_i ha
        have ha : k.isAgg = false := by simpa using ha
        rw [ha] at hg
        rintro us rfl
        simp [avOf, aggAV] at hg

theorem repX_elem {k : Kind} {x : k.Ty} {us vs : List Value} {o : Nat} (h : repX M k x us) (hs : ∀ j, j < k.esz → vs[o + j]? = us[j]?) : ∀ (j : Nat) (y : AV), (k.enc x)[j]? = some y → ∃ u, vs[o + j]? = some u ∧ repE M y u := by
  intro j y hy
  obtain ⟨u, h1, h2⟩ := h.2 j y hy
  have hj : j < k.esz := by rw [← k.enc_length x]; exact (List.getElem?_eq_some_iff.1 hy).1
  exact ⟨u, by rw [hs j hj]; exact h1, h2⟩
theorem likeL_one {k : Kind} {l : List AV} {y : k.Ty} (hl : likeL l (k.enc y)) : l.all AV.one = true := by
  rw [List.all_eq_true]
  intro x hx
  obtain ⟨m, hm, rfl⟩ := List.mem_iff_getElem.1 hx
  have hm' : m < (k.enc y).length := by rw [← likeL_length hl]; exact hm
  obtain ⟨x', hx', hk⟩ := likeL_get hl m _ (List.getElem?_eq_getElem hm')
  rw [List.getElem?_eq_getElem hm] at hx'
  injection hx' with hx'
  rw [hx']
  rcases hk with hk | ⟨hk, _⟩
  · rw [hk]
    rcases k.enc_cell y m _ (List.getElem?_eq_getElem hm') with ⟨c, hc, _⟩ | hs
    · rw [hc]; rfl
    · generalize (k.enc y)[m] = z at hs
      cases z <;> simp [AV.isSc] at hs <;> rfl
  · rw [hk]; rfl
theorem dec_cells {k : Kind} {x : AV} {v : Value} {y : k.Ty} (hd : k.dec x.cells = some y) (hv : rep ρ M noG x v) : repX M k y v.cells.toList ∧ (∀ u ∈ v.cells.toList, u.oneCell' = true) := by
  obtain ⟨h1, h2⟩ := one_cellsL (likeL_one (k.dec_like hd)) hv
  exact ⟨k.dec_rep hd h1, h2⟩
theorem fillRows {k : Kind} (ht : ∀ i, rep ρ M noG (t.getD i .unk) (a.eval (.tmp i))) : ∀ (ps : List (Nat × Operand)) (i : Nat) (zs : List Value) (xs : List k.Ty), decAll k t i ps = some xs → zs.length = (i + xs.length) * k.esz →
    ∃ vs, Instr.fill (fun i => some (i * k.esz, k.esz)) ⟨zs⟩ (ps.map fun p => (p.1, a.eval p.2)) = some ⟨vs⟩ ∧ vs.length = zs.length ∧ (∀ m, m < i * k.esz → vs[m]? = zs[m]?) ∧
      (∀ (n : Nat) (y : k.Ty), xs[n]? = some y → ∃ us, repX M k y us ∧ ∀ j, j < k.esz → vs[(i + n) * k.esz + j]? = us[j]?)
  | [], i, zs, xs, h, hl => by
    simp only [decAll, Option.some.injEq] at h
    subst h
    exact ⟨zs, rfl, rfl, fun _ _ => rfl, fun n y hy => by simp at hy⟩
  | (i', x) :: ps, i, zs, xs, h, hl => by
    simp only [decAll] at h
    split at h
    case isFalse => cases h
    rename_i hii
    subst hii
    split at h
    case h_2 => cases h
    rename_i y ys hy hys
    injection h with h
    subst h
    obtain ⟨hx, hone⟩ := dec_cells hy (rep_opd ht x)
    have hlen := hx.1
    simp only [List.length_cons] at hl
    have hfit : i * k.esz + (a.eval x).cells.toList.length ≤ zs.length := by
      rw [hlen, hl, show i + (ys.length + 1) = (i + 1) + ys.length from by omega, Nat.add_mul, Nat.add_mul, Nat.one_mul]; omega
    obtain ⟨vs, h1, h2, h3, h4⟩ := fillRows ht ps (i + 1) (spliceV zs (i * k.esz) (a.eval x).cells.toList) ys hys (by rw [spliceV_length _ _ _ hfit, hl]; congr 1; omega)
    have hsz : (a.eval x).cells.size = k.esz := by simpa using hlen
    refine ⟨vs, ?_, by rw [h2, spliceV_length _ _ _ hfit], fun m hm => ?_, fun n z hz => ?_⟩
    · simp only [List.map_cons, Instr.fill, hsz, ne_eq, not_true_eq_false, decide_false, Bool.false_or]
      have hq : decide (i * k.esz + k.esz > (⟨zs⟩ : Array Value).size) = false := by
        have hfit := hfit
        rw [hlen] at hfit
        simp only [List.size_toArray, decide_eq_false_iff_not]
        omega
      simp only [hq, Bool.false_eq_true, if_false]
      have := fold_splice (i * k.esz) (a.eval x).cells.toList zs 0 (by simpa using hfit)
      rw [← Array.foldl_toList, Array.toList_zipIdx]
      simp only [Nat.add_zero] at this
      rw [this]
      exact h1
    · rw [h3 m (by rw [Nat.add_mul]; omega), spliceV_get _ _ _ _ hfit, if_neg (by omega)]
    · cases n with
      | zero =>
        simp at hz; subst hz
        refine ⟨_, hx, fun j hj => ?_⟩
        rw [Nat.add_zero, h3 _ (by rw [Nat.add_mul]; omega), spliceV_get _ _ _ _ hfit, if_pos ⟨by omega, by rw [hlen]; omega⟩]
        congr 1; omega
      | succ n =>
        obtain ⟨us, g1, g2⟩ := h4 n z (by simpa using hz)
        refine ⟨us, g1, fun j hj => ?_⟩
        rw [show i + (n + 1) = i + 1 + n from by omega]
        exact g2 j hj
theorem rows_elems {k : Kind} {xs : List k.Ty} {vs : List Value} (h : ∀ (n : Nat) (y : k.Ty), xs[n]? = some y → ∃ us, repX M k y us ∧ ∀ j, j < k.esz → vs[n * k.esz + j]? = us[j]?) : elems M ⟨k, xs⟩ vs := by
  intro i hi j x hx
  simp only [Coll.len] at hi
  obtain ⟨us, h1, h2⟩ := h i xs[i] (List.getElem?_eq_getElem hi)
  have hx' : (k.enc xs[i])[j]? = some x := by
    rw [← hx]; simp only [Coll.get]; congr 2
    simp only [List.getD_eq_getElem?_getD]; rw [List.getElem?_eq_getElem hi]; rfl
  exact repX_elem h1 h2 j x hx'

theorem buildSlice_new (H : SimH B w0 M0 h w ρ M) (ht : ∀ i, rep ρ M noG (t.getD i .unk) (a.eval (.tmp i))) {ty e : TypeId} {k : Kind} {len : Nat} {ps : List (Nat × Operand)} {xs : List k.Ty} (hu : P.underlying ty = some (.slice e)) (hk : kindOk P e k = true) (hz : zeroOk P e k = true)
    (hd : decAll k t 0 ps = some xs) (hl : xs.length = len) (hlim : len * k.esz ≤ 16777216) {nid : Nat} (hid : ρ nid = none) :
    ∃ v w' ρ' M', (Instr.buildSlice ty len ⟨ps.map fun p => (p.1, a.eval p.2)⟩).run P w = .ok v w' ∧ ρ.only ρ' [(nid, .vec false ⟨k, xs⟩)] ∧ M.le M' ∧ SimH B w0 M0 (hset h nid (.vec false ⟨k, xs⟩)) w' ρ' M' ∧ rep ρ' M' noG (.vec nid) v := by
  obtain ⟨i, z, hi, hzz, hzs, hzx, _⟩ := zero_of (P := P) M hz
  subst hl
  simp only [kindOk, Bool.and_eq_true, beq_iff_eq] at hk
  have hts := hk.1.1.1
  have hisz : i.size = k.esz := by rw [← hts]; simp [tsize, hi]
  have hsz := run_sizeOf (P := P) e w hk.1.1.2
  rw [hts] at hsz
  generalize hzl : ((Array.range (xs.length * k.esz)).map fun m => (if xs.length * k.esz = 0 then #[] else z.cells)[m % (if xs.length * k.esz = 0 then #[] else z.cells).size]!) = za
  have hzal : za.size = xs.length * k.esz := by rw [← hzl]; simp
  obtain ⟨vs, h1, h2, _, h4⟩ := fillRows (M := M) (ρ := ρ) ht ps 0 za.toList xs hd (by simp [hzal])
  simp only [Nat.zero_add] at h4
  obtain ⟨ρ', M', n1, n2, n3, n4⟩ := new_vec H hid false ⟨k, xs⟩ vs xs.length e (by rw [h2]; simp [hzal, Coll.esz]) (Nat.le_refl _) (by
    have := k.esz_pos
    have h3 : xs.length * 1 ≤ xs.length * k.esz := Nat.mul_le_mul_left _ this
    have hmx : maxLen = 9223372036854775807 := by decide
    omega) (rows_elems h4)
  refine ⟨_, _, ρ', M', ?_, n1, n2, n3, n4⟩
  have hlim' : ¬ (16777216 < xs.length * k.esz) := by omega
  have hfill : Instr.fill (fun i => some (i * k.esz, k.esz)) za (ps.map fun p => (p.1, a.eval p.2)) = some ⟨vs⟩ := h1
  by_cases h0 : xs.length * k.esz = 0
  · rw [if_pos h0] at hzl
    simp only [Instr.buildSlice, Sem.run_bind, run_underlying hu, Result.andThen_ok, hsz, Sem.run_ite, Nat.reducePow, gt_iff_lt, h0, if_true, Sem.run_pure]
    rw [h0] at hzl
    simp only [Array.range_zero', Array.map_empty] at hzl ⊢
    rw [hzl, hfill]
    simp [newRow, Coll.len]
  · rw [if_neg h0] at hzl
    simp only [Instr.buildSlice, Sem.run_bind, run_underlying hu, Result.andThen_ok, hsz, Sem.run_ite, Nat.reducePow, gt_iff_lt, hlim', if_false, h0, run_zeroValue hi hzz, Sem.run_pure]
    rw [hzl, hfill]
    simp [newRow, Coll.len]
theorem madeCells_get (z : Array Value) (n m : Nat) (h : m < n) : (madeCells z n).toList[m]? = some z[m % z.size]! := by
  simp [madeCells, h]
theorem makeSlice_new (H : SimH B w0 M0 h w ρ M) {ty e : TypeId} {k : Kind} {kl kc : IntKind} {l c : Int} (hu : P.underlying ty = some (.slice e)) (hk : kindOk P e k = true) (hz : zeroOk P e k = true)
    (h0 : 0 ≤ l) (hlc : l ≤ c) (hby : c * bytesOf P e ≤ 281474976710656) (h63 : c ≤ 9223372036854775807) (f : Bool) {nid : Nat} (hid : ρ nid = none) :
    ∃ v w' ρ' M', (Instr.makeSlice ty (.int kl l) (.int kc c)).run P w = .ok v w' ∧ ρ.only ρ' [(nid, .vec f ⟨k, List.replicate l.toNat default⟩)] ∧ M.le M' ∧ SimH B w0 M0 (hset h nid (.vec f ⟨k, List.replicate l.toNat default⟩)) w' ρ' M' ∧ rep ρ' M' noG (.vec nid) v := by
  obtain ⟨i, z, hi, hzz, hzs, hzx, _⟩ := zero_of (P := P) M hz
  simp only [kindOk, Bool.and_eq_true, beq_iff_eq] at hk
  have hts := hk.1.1.1
  have hisz : i.size = k.esz := by rw [← hts]; simp [tsize, hi]
  have hb : bytesOf P e = i.bytes := by simp [bytesOf, hi]
  have hrun := run_make (P := P) w ty e i z hu hi hzz kl kc l c h0 hlc (by rw [hb] at hby; rw [Int.mul_comm]; exact hby) h63
  rw [hisz] at hrun
  have hp := k.esz_pos
  obtain ⟨ρ', M', n1, n2, n3, n4⟩ := new_vec H hid f ⟨k, List.replicate l.toNat default⟩ (madeCells z.cells (c.toNat * k.esz)).toList c.toNat e (by simp [size_madeCells, Coll.esz]) (by simp [Coll.len]; omega) (by
    have hmx : maxLen = 9223372036854775807 := by decide
    omega) (rows_elems (k := k) (xs := List.replicate l.toNat default) fun n y hy => by
      have hn : n < l.toNat ∧ y = default := by
        rw [List.getElem?_replicate] at hy
        split at hy
        · rename_i hn; injection hy with hy; exact ⟨hn, hy.symm⟩
        · cases hy
      obtain ⟨hn, rfl⟩ := hn
      refine ⟨z.cells.toList, hzx, fun j hj => ?_⟩
      have hlt : n * k.esz + j < c.toNat * k.esz := by
        have : (n + 1) * k.esz ≤ c.toNat * k.esz := Nat.mul_le_mul_right _ (by omega)
        rw [Nat.add_mul] at this; omega
      rw [madeCells_get _ _ _ hlt, hzs]
      have hm : (n * k.esz + j) % k.esz = j := by rw [Nat.mul_comm, Nat.mul_add_mod]; exact Nat.mod_eq_of_lt hj
      rw [hm, getElem!_pos z.cells j (by rw [hzs]; exact hj)]
      simp [hzs, hj])
  refine ⟨_, _, ρ', M', hrun, n1, n2, n3, ?_⟩
  have : (Coll.mk k (List.replicate l.toNat default)).len = l.toNat := by simp [Coll.len]
  rw [this] at n4
  exact n4

/-! ### Cuts -/
theorem boundAV_run (ht : ∀ i, rep ρ M noG (t.getD i .unk) (a.eval (.tmp i))) {d : Int} {o : Option Operand} {l : Int} (hb : boundAV t d o = some l) : (o = none ∧ l = d) ∨ ∃ x k, o = some x ∧ a.eval x = .int k l := by
  cases o with
  | none => simp only [boundAV, Option.some.injEq] at hb; exact .inl ⟨rfl, hb.symm⟩
  | some x =>
    simp only [boundAV] at hb
    split at hb
    · rename_i k i hx
      injection hb with hb; subst hb
      have := rep_opd ht x
      rw [hx] at this
      simp only [rep] at this
      exact .inr ⟨x, k, rfl, this⟩
    · cases hb
theorem sliceBounds_run {lo hi : Option Operand} (hs : Bool) {l r : Int} {n cap : Nat} (hlo : (lo = none ∧ l = 0) ∨ ∃ x k, lo = some x ∧ a.eval x = .int k l) (hhi : (hi = none ∧ r = n) ∨ ∃ x k, hi = some x ∧ a.eval x = .int k r)
    (h0 : 0 ≤ l) (h1 : l ≤ r) (h2 : r ≤ n) (hc : n ≤ cap) (w : World) : (Instr.sliceBounds hs n cap (lo.map a.eval) (hi.map a.eval) none).run P w = .ok (l.toNat, r.toNat, cap) w := by
  have hr : r ≤ cap := by omega
  have h0r : 0 ≤ r := by omega
  rcases hlo with ⟨rfl, rfl⟩ | ⟨x, k, rfl, hx⟩ <;> rcases hhi with ⟨rfl, rfl⟩ | ⟨y, k', rfl, hy⟩ <;>
    simp_all [Instr.sliceBounds, Instr.sliceBound, asIntOf] <;> omega
theorem slice_string (ht : ∀ i, rep ρ M noG (t.getD i .unk) (a.eval (.tmp i))) {ty : TypeId} {s : ByteArray} {lo hi : Option Operand} {l r : Int} (hu : P.underlying ty = some .string) (hlo : boundAV t 0 lo = some l) (hhi : boundAV t s.size hi = some r)
    (h0 : 0 ≤ l) (h1 : l ≤ r) (h2 : r ≤ s.size) (w : World) : (Instr.sliceAt ty (.string s) (lo.map a.eval) (hi.map a.eval) none).run P w = .ok (.string (s.extract l.toNat r.toNat)) w := by
  have := sliceBounds_run (P := P) (a := a) false (n := s.size) (cap := s.size) (boundAV_run (M := M) (ρ := ρ) ht hlo) (boundAV_run (M := M) (ρ := ρ) ht hhi) h0 h1 h2 (Nat.le_refl _) w
  simp [Instr.sliceAt, Instr.slice, run_underlying hu, this]
theorem slice_coll (ht : ∀ i, rep ρ M noG (t.getD i .unk) (a.eval (.tmp i))) {ty e : TypeId} {c : Coll} {v : Value} {lo hi : Option Operand} {l r : Int} (hu : P.underlying ty = some (.slice e)) (hi' : (P.info? e).isSome = true) (hs : tsize P e = c.esz)
    (hlo : boundAV t 0 lo = some l) (hhi : boundAV t c.len hi = some r) (h0 : 0 ≤ l) (h1 : l ≤ r) (h2 : r ≤ c.len) (hv : rep ρ M noG (.coll c) v) (w : World) :
    ∃ u, (Instr.sliceAt ty v (lo.map a.eval) (hi.map a.eval) none).run P w = .ok u w ∧ rep ρ M noG (.coll (c.sub l.toNat r.toNat)) u := by
  simp only [rep] at hv
  obtain ⟨ad, cap, rfl, hl, hrd⟩ := hv
  have hb := sliceBounds_run (P := P) (a := a) true (n := c.len) (cap := cap) (boundAV_run (M := M) (ρ := ρ) ht hlo) (boundAV_run (M := M) (ρ := ρ) ht hhi) h0 h1 h2 hl w
  have hlen : (c.sub l.toNat r.toNat).len = r.toNat - l.toNat := by simp [Coll.sub, Coll.len] at h2 ⊢; omega
  refine ⟨.slice (if cap = l.toNat then ad else ad.map (·.add (l.toNat * c.esz))) (r.toNat - l.toNat) (cap - l.toNat), ?_, ?_⟩
  · simp only [Instr.sliceAt, Instr.slice, Sem.run_bind, run_underlying hu, Result.andThen_ok, hb, run_sizeOf e w hi', hs, Sem.run_pure]
  · simp only [rep]
    refine ⟨_, _, by rw [hlen], by rw [hlen]; omega, fun hp => ?_⟩
    rw [hlen] at hp
    obtain ⟨b, o, rfl, hr⟩ := hrd (by omega)
    rw [if_neg (by omega)]
    refine ⟨b, o + l.toNat * c.esz, by simp [Addr.add_lit], fun i hi j x hx => ?_⟩
    rw [hlen] at hi
    have hx' : (c.get (l.toNat + i))[j]? = some x := by
      rw [← hx]
      simp only [Coll.get, Coll.sub]
      congr 2
      simp only [List.getD_eq_getElem?_getD]
      rw [List.getElem?_drop, List.getElem?_take, if_pos (by omega)]
      rfl
    obtain ⟨u, hu, hm⟩ := hr (l.toNat + i) (by omega) j x hx'
    refine ⟨u, ?_, hm⟩
    rw [← hu, Nat.add_mul, ← Nat.add_assoc]
    rfl
theorem slice_vec (H : SimH B w0 M0 h w ρ M) (ht : ∀ i, rep ρ M noG (t.getD i .unk) (a.eval (.tmp i))) {ty e : TypeId} {f : Bool} {c : Coll} {id : Nat} {v : Value} {lo hi : Option Operand} {l r : Int} (ho : hget h id = .vec f c) (hu : P.underlying ty = some (.slice e)) (hi' : (P.info? e).isSome = true) (hs : tsize P e = c.esz)
    (hlo : boundAV t 0 lo = some l) (hhi : boundAV t c.len hi = some r) (h0 : 0 ≤ l) (h1 : l ≤ r) (h2 : r ≤ c.len) (hv : rep ρ M noG (.vec id) v) :
    ∃ u, (Instr.sliceAt ty v (lo.map a.eval) (hi.map a.eval) none).run P w = .ok u w ∧ rep ρ M noG (.vsub id c.esz l.toNat r.toNat) u := by
  have hobj := H.obj id
  rw [ho] at hobj
  obtain ⟨hh, g1, g2⟩ := hobj
  simp only [rep] at hv
  have hv := hv.2
  rw [g1] at hv
  injection hv with hv
  injection hv with hv
  subst hv
  obtain ⟨ad, cap, rfl, hl, hb⟩ : ∃ ad cap, hh = .slice ad c.len cap ∧ c.len ≤ cap ∧ (0 < c.len → ∃ r, ad = some ⟨r, 0, none⟩) := by
    rcases g2 with ⟨rfl, g2⟩ | ⟨r, cap, vs, t, rfl, _, _, _, k5, _⟩
    · exact ⟨none, 0, by rw [g2], by omega, fun h => by omega⟩
    · exact ⟨_, cap, rfl, k5, fun _ => ⟨r, rfl⟩⟩
  have hbd := sliceBounds_run (P := P) (a := a) true (n := c.len) (cap := cap) (boundAV_run (M := M) (ρ := ρ) ht hlo) (boundAV_run (M := M) (ρ := ρ) ht hhi) h0 h1 h2 hl w
  refine ⟨.slice (if cap = l.toNat then ad else ad.map (·.add (l.toNat * c.esz))) (r.toNat - l.toNat) (cap - l.toNat), ?_, ?_⟩
  · simp only [Instr.sliceAt, Instr.slice, Sem.run_bind, run_underlying hu, Result.andThen_ok, hbd, run_sizeOf e w hi', hs, Sem.run_pure]
  · simp only [rep]
    refine ⟨by omega, _, _, _, g1, rfl, fun hlt => ?_⟩
    obtain ⟨r', rfl⟩ := hb (by omega)
    exact ⟨r', _, _, rfl, by omega, by rw [if_neg (by omega)]; simp [Addr.add_lit]⟩

/-! ### Elements that are written -/
theorem store_evp (H : SimH B w0 M0 h w ρ M) {ty : TypeId} {c : Coll} {id i off : Nat} {x : AV} {p v : Value} {y : c.k.Ty} (ho : hget h id = .vec false c) (hp : rep ρ M noG (.evp id c.esz i off) p) (hv : rep ρ M noG x v)
    (hi : (P.info? ty).isSome = true) (hl : x.cells.length = tsize P ty) (hoff : off + x.cells.length ≤ c.esz) (h1 : x.cells.all AV.one = true) (hd : c.k.dec (splice (c.get i) off x.cells) = some y) :
    ∃ w', (Instr.storeAt ty p v).run P w = .ok () w' ∧ SimH B w0 M0 (hset h id (.vec false (c.set i y))) w' ρ M := by
  obtain ⟨hc, hone⟩ := one_cellsL h1 hv
  have hlc := repL_length hc
  have hobj := H.obj id
  rw [ho] at hobj
  obtain ⟨hh, g1, g2⟩ := hobj
  simp only [rep] at hp
  obtain ⟨_, r, n, cap, h4, hi', rfl⟩ := hp
  rw [g1] at h4
  injection h4 with h4
  injection h4 with h4
  subst h4
  rcases g2 with ⟨g2, _⟩ | ⟨r', cap', vs, ct, e, k2, k3, k4, k5, k6, k7, k8, _⟩
  · cases g2
  injection e with e1 e2 e3
  injection e1 with e1
  injection e1 with e1
  subst e1; subst e2; subst e3
  have hnB := (H.own _ _ k2).1
  have hrl := (Array.getElem?_eq_some_iff.1 k3).1
  have hrow : (i + 1) * c.esz ≤ cap * c.esz := Nat.mul_le_mul_right _ (by omega)
  have hfit : i * c.esz + off + v.cells.toList.length ≤ vs.length := by rw [k4, ← hlc]; rw [Nat.add_mul] at hrow; omega
  have hst := run_storeCells (P := P) (r := r) (o := i * c.esz + off) v.cells.toList vs 0 w k3 (by simpa using hfit) hone
  refine ⟨putCells w r (spliceV vs (i * c.esz + off) v.cells.toList) ct, ?_, ?_⟩
  · simp only [Instr.storeAt, Instr.sureAddr, Sem.run_bind, Sem.run_pure, Result.andThen_ok, storeVar, run_sizeOf ty w hi]
    have hz : v.cells.size = tsize P ty := by rw [← hl, hlc]; simp
    simp only [hz, ne_eq, not_true_eq_false, if_false]
    simpa using hst
  · refine H.update id _ (fun _ _ => rfl) (Loc.le_refl _) (Mem.le_refl _) ?_ ?_ (fun r' i hr' => ⟨(H.own r' i hr').1, by rw [putCells_size]; exact (H.own r' i hr').2⟩) ?_ (fun _ _ _ => rfl) (putCells_below hnB)
    · have hset : (c.set i y).len = c.len ∧ (c.set i y).esz = c.esz := ⟨by simp [Coll.set, Coll.len], rfl⟩
      have hk8 : ∀ off, M r off = none := fun off => k8 off (.inl rfl)
      refine ⟨_, g1, .inr ⟨r, cap, _, ct, by rw [hset.1], k2, putCells_at hrl, by rw [spliceV_length _ _ _ hfit, hset.2]; exact k4, by rw [hset.1]; exact k5, k6, ?_, fun off _ => hk8 off, fun hf => by cases hf⟩⟩
      -- the elements
      have hold : ∃ us : List Value, us.length = c.esz ∧ (∀ m, m < c.esz → us[m]? = vs[i * c.esz + m]?) ∧ repL ρ M noG (c.get i) us := by
        refine ⟨(vs.drop (i * c.esz)).take c.esz, by rw [List.length_take, List.length_drop, k4]; rw [Nat.add_mul] at hrow; omega, fun m hm => by rw [List.getElem?_take, if_pos hm, List.getElem?_drop], ?_⟩
        have hgl := c.get_length i
        have key : ∀ (l : List AV) (us : List Value), l.length = us.length → (∀ (j : Nat) (x : AV), l[j]? = some x → ∃ u : Value, us[j]? = some u ∧ rep ρ M noG x u) → repL ρ M noG l us := by
          intro l
          induction l with
          | nil => intro us hl _; cases us <;> simp [repL] at hl ⊢
          | cons x l ih =>
            intro us hl hx
            cases us with
            | nil => simp at hl
            | cons u us =>
              simp only [repL]
              obtain ⟨u', h1, h2⟩ := hx 0 x rfl
              simp at h1; subst h1
              exact ⟨h2, ih us (by simpa using hl) fun j z hz => by simpa using hx (j + 1) z (by simpa using hz)⟩
        refine key _ _ (by rw [hgl, List.length_take, List.length_drop, k4]; rw [Nat.add_mul] at hrow; omega) fun j x hx => ?_
        obtain ⟨u, hu, hm⟩ := k7 i hi' j x hx
        refine ⟨u, by rw [List.getElem?_take, if_pos (Coll.get_some hx), List.getElem?_drop]; exact hu, ?_⟩
        rcases Coll.get_cell hx with ⟨c', rfl⟩ | hs
        · exact repC_up _ _ _ hm
        · cases x <;> simp [AV.isSc] at hs <;> simpa [repE, sc, rep] using hm
      obtain ⟨us, hul, huv, hur⟩ := hold
      have hnew := c.k.dec_rep hd (repL_splice off hur hc)
      have hfit2 : off + v.cells.toList.length ≤ us.length := by rw [hul, ← hlc]; exact hoff
      intro i2 hi2 j z hz
      rw [hset.1] at hi2
      rw [hset.2]
      have hj : j < c.esz := Coll.get_some (c := c.set i y) hz
      by_cases hii : i2 = i
      · subst hii
        have hz' : (c.k.enc y)[j]? = some z := by
          rw [← hz]; simp only [Coll.get, Coll.set]; congr 2
          simp only [List.getD_eq_getElem?_getD]
          rw [List.getElem?_set_self (by exact hi2)]; rfl
        obtain ⟨u, hu, hm⟩ := hnew.2 j z hz'
        refine ⟨u, ?_, hm⟩
        rw [← hu, spliceV_get _ _ _ _ hfit, spliceV_get _ _ _ _ hfit2]
        by_cases hc1 : off ≤ j ∧ j < off + v.cells.toList.length
        · rw [if_pos hc1, if_pos (by omega)]; congr 1; omega
        · rw [if_neg hc1, if_neg (by omega), huv j hj]
      · have hz' : (c.get i2)[j]? = some z := by
          rw [← hz]; simp only [Coll.get, Coll.set]; congr 2
          simp only [List.getD_eq_getElem?_getD]
          rw [List.getElem?_set_ne (Ne.symm hii)]; rfl
        obtain ⟨u, hu, hm⟩ := k7 i2 hi2 j z hz'
        refine ⟨u, ?_, hm⟩
        rw [spliceV_get _ _ _ _ hfit, if_neg]
        · exact hu
        · rw [← hlc]
          rintro ⟨q1, q2⟩
          rcases Nat.lt_or_gt_of_ne hii with hlt | hgt
          · have : (i2 + 1) * c.esz ≤ i * c.esz := Nat.mul_le_mul_right _ hlt
            rw [Nat.add_mul] at this; omega
          · have : (i + 1) * c.esz ≤ i2 * c.esz := Nat.mul_le_mul_right _ hgt
            rw [Nat.add_mul] at this; omega
    · intro i2 r' hne hd hr'
      refine ⟨hr', putCells_ne fun e => hne ?_, fun _ h => h⟩
      subst e
      rw [k2] at hr'
      injection hr' with hr'
      exact hr'.symm
    · intro b o u hu
      have := H.mem b o u hu
      have hb : b ≠ r := fun e => by subst e; rw [k8 o (.inl rfl)] at hu; cases hu
      rw [← this]
      unfold World.cell?
      simp only []
      rw [putCells_ne hb]
end
end Go.Eng
