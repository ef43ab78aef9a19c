/- The engine: parts 7c 7d 7e 7f 8 9. -/
import Derived.Test.YtbjifeobhenkfaaEB
import Derived.Laws.RangeString
import Derived.Laws.BytesString
set_option linter.unusedVariables false
set_option linter.unusedSimpArgs false
section
namespace Go.Eng
open Go.RowKit (Below)

section
variable {P : Program} {B : Nat → Prop} {w0 w : World} {M0 M : Mem} {h hr : List AObj} {ρ : Loc} {t : List AV} {a : Act}

theorem new_vec (H : SimH B w0 M0 h w ρ M) {nid : Nat} (hid : ρ nid = none) (f : Bool) (c : Coll) (vs : List Value) (cap : Nat) (e : TypeId) (hl : vs.length = cap * c.esz) (hc : c.len ≤ cap) (hm : cap ≤ maxLen) (he : elems M c vs) :
  ∃ ρ' M', ρ.only ρ' [(nid, .vec f c)] ∧ M.le M' ∧ SimH B w0 M0 (hset h nid (.vec f c)) (w.alloc (.cells ⟨vs⟩ e)) ρ' M' ∧ rep ρ' M' noG (.vec nid) (.slice (some ⟨w.heap.size, 0, none⟩) c.len cap) := by
 have hfr : ∀ off, M w.heap.size off = none := fun off => Mem.none_new H (Nat.le_refl _) off
 have hnew : (w.alloc (.cells ⟨vs⟩ e)).heap[w.heap.size]? = some (.cells ⟨vs⟩ e (0, 0)) := heap_alloc_new w _
 have hnB : ¬ B w.heap.size := fun hb => Nat.lt_irrefl _ (H.size _ hb)
 obtain ⟨M', hM', hMl, hMo, hMi⟩ : ∃ M', M' = (if f then M.told w.heap.size (c.len * c.esz) vs else M) ∧ M.le M' ∧ (∀ b o, b ≠ w.heap.size → M' b o = M b o) ∧ (∀ o v, M' w.heap.size o = some v → vs[o]? = some v ∧ f = true ∧ o < c.len * c.esz) := by
  refine ⟨_, rfl, ?_, ?_, ?_⟩
  · split
    · exact Mem.told_le fun o v _ hv => by rw [hfr o] at hv; cases hv
    · exact Mem.le_refl _
  · intro b o hb; split
    · unfold Mem.told; rw [if_neg (fun hc => hb hc.1)]
    · rfl
  · intro o v hv; split at hv
    · rename_i hf
      unfold Mem.told at hv
      split at hv
      · rename_i hc; exact ⟨hv, hf, hc.2⟩
      · rw [hfr o] at hv; cases hv
    · rw [hfr o] at hv; cases hv
 refine ⟨ρ.put nid (.hdr (.slice (some ⟨w.heap.size, 0, none⟩) c.len cap)) w.heap.size, M', Loc.only_put hid _ _ (List.mem_singleton_self _), hMl, ?_, ?_⟩
 · refine H.take nid hid _ _ w.heap.size (fun i hi => absurd (H.own _ _ hi).2 (Nat.lt_irrefl _)) hnB (by simp) (fun k _ hk => Below.heap_alloc w _ k hk) ((Keeps.refl _ _).alloc H.size _) hMl hMo ?_ ?_
   · intro o v hv; rw [cell_of_block hnew]; exact (hMi o v hv).1
   · refine ⟨.slice (some ⟨w.heap.size, 0, none⟩) c.len cap, by simp [Loc.put], .inr ⟨w.heap.size, cap, vs, e, rfl, by simp [Loc.put], hnew, hl, hc, hm, elems_mono hMl he, ?_, ?_⟩⟩
     · intro off ho
       cases hm : M' w.heap.size off with
       | none => rfl
       | some v =>
        obtain ⟨_, h2, h3⟩ := hMi off v hm
        rcases ho with ho | ho
        · rw [h2] at ho; cases ho
        · omega
     · intro hf off u' ho hu'
       rw [hM', if_pos hf]
       unfold Mem.told
       rw [if_pos ⟨rfl, ho⟩]
       exact hu'
 · simp only [rep]
   exact ⟨⟨_, _, _, rfl⟩, by simp [Loc.put]⟩
theorem new_nil (H : SimH B w0 M0 h w ρ M) {nid : Nat} (hid : ρ nid = none) (f : Bool) (k : Kind) :
  ∃ ρ', ρ.only ρ' [(nid, .vec f ⟨k, []⟩)] ∧ SimH B w0 M0 (hset h nid (.vec f ⟨k, []⟩)) w ρ' M ∧ rep ρ' M noG (.vec nid) (.slice none 0 0) := by
 refine ⟨ρ.put0 nid (.hdr (.slice none 0 0)), Loc.only_put0 hid _ _ (List.mem_singleton_self _), ?_, ?_⟩
 · exact H.update nid _ (fun i hi => by simp [Loc.put0, hi]) (Loc.le_put0 hid) (Mem.le_refl _) ⟨.slice none 0 0, by simp [Loc.put0], .inl ⟨rfl, rfl⟩⟩ (fun i r _ _ hr => ⟨hr, rfl, fun _ h => h⟩) (fun r i hr => H.own r i hr) H.mem (fun _ _ _ => rfl) (Keeps.refl _ _)
 · simp only [rep]
   exact ⟨⟨_, _, _, rfl⟩, by simp [Loc.put0]⟩

theorem alloc_nil {P : Program} (H : SimH B w0 M0 h w ρ M) {t : TypeId} {z : AV} {id off : Nat} {y : AV} (hz : tzero P t = some z) (hid : ρ id = none) (hoff : z.cells[off]? = some .nils) (hy : rep ρ M noG y (.slice none 0 0)) :
  ∃ w', (Instr.alloc t true (.tuple #[])).run P w = .ok (.pointer (some ⟨w.heap.size, 0, none⟩)) w' ∧ SimH B w0 M0 (hset h id (.cells t (z.cells.set off y))) w' (ρ.put id (.blk w.heap.size) w.heap.size) M := by
 unfold tzero at hz
 cases hi : P.info? t with
 | none => rw [hi] at hz; cases hz
 | some i =>
  rw [hi] at hz
  simp only [Option.bind_some] at hz
  cases hzz : i.zero with
  | none => rw [hzz] at hz; cases hz
  | some zv =>
   rw [hzz] at hz
   injection hz with hz
   subst hz
   have h1 := cells_avOf (ρ := ρ) (M := M) zv
   obtain ⟨v, hv, hr⟩ := repL_get h1 off _ hoff
   simp only [rep] at hr
   subst hr
   have key : ∀ (xs : List AV) (vs : List Value) (i : Nat), repL ρ M noG xs vs → vs[i]? = some (.slice none 0 0) → repL ρ M noG (xs.set i y) vs := by
    intro xs
    induction xs with
    | nil => intro vs i h _; simpa using h
    | cons x xs ih =>
     intro vs i h k
     cases vs with
     | nil => simp [repL] at h
     | cons v vs =>
      simp only [repL] at h
      cases i with
      | zero =>
       simp only [List.getElem?_cons_zero, Option.some.injEq] at k
       subst k
       simp only [List.set_cons_zero, repL]
       exact ⟨hy, h.2⟩
      | succ i => simp only [List.set_cons_succ, repL]; exact ⟨h.1, ih vs i h.2 (by simpa using k)⟩
   refine ⟨_, ?_, H.alloc id hid t _ _ (key _ _ off h1 hv)⟩
   simp only [Instr.alloc, Sem.run_bind, run_zeroValue hi hzz, Result.andThen_ok, run_newVar, Sem.run_pure]
theorem sameZL_length : ∀ {xs ys : List AV}, sameZL xs ys = true → xs.length = ys.length
 | [], [], _ => rfl
 | _ :: xs, _ :: ys, h => by simp only [sameZL, Bool.and_eq_true] at h; simp [sameZL_length h.2]
 | [], _ :: _, h => by simp [sameZL] at h
 | _ :: _, [], h => by simp [sameZL] at h
theorem sameZ_repE {x y : AV} {u : Value} (h : sameZ x y = true) (hu : rep ρ M noG y u) : repE M x u := by
 unfold sameZ at h
 split at h
 · simp only [Bool.and_eq_true, decide_eq_true_eq, beq_iff_eq] at h
   obtain ⟨rfl, rfl⟩ := h
   simpa [repE, sc, rep] using hu
 · simp only [beq_iff_eq] at h; subst h
   simpa [repE, sc, rep] using hu
 · rename_i s s'
   simp only [Bool.and_eq_true, beq_iff_eq] at h
   have : s = s' := by
    obtain ⟨⟨a⟩⟩ := s; obtain ⟨⟨b⟩⟩ := s'
    have h1 : a = [] := by have := h.1; simpa [ByteArray.size] using this
    have h2 : b = [] := by have := h.2; simpa [ByteArray.size] using this
    rw [h1, h2]
   subst this
   simpa [repE, sc, rep] using hu
 · rename_i c
   simp only [beq_iff_eq] at h
   simp only [rep] at hu
   subst hu
   exact ⟨none, 0, by rw [h], by omega, fun h0 => by omega⟩
 · rename_i a
   cases a with
   | none => simpa [repE, sc, rep] using hu
   | some _ => cases h
 · cases h
theorem sameZL_get : ∀ {xs ys : List AV} {us : List Value}, sameZL xs ys = true → repL ρ M noG ys us → ∀ (j : Nat) (x : AV), xs[j]? = some x → ∃ u, us[j]? = some u ∧ repE M x u
 | [], _, _, _, _, j, x, hx => by simp at hx
 | _ :: _, [], _, h, _, _, _, _ => by simp [sameZL] at h
 | _ :: _, _ :: _, [], _, h, _, _, _ => by simp [repL] at h
 | x :: xs, y :: ys, u :: us, h, hu, 0, z, hz => by
  simp only [sameZL, Bool.and_eq_true] at h
  simp only [repL] at hu
  simp at hz; subst hz
  exact ⟨u, rfl, sameZ_repE h.1 hu.1⟩
 | x :: xs, y :: ys, u :: us, h, hu, j + 1, z, hz => by
  simp only [sameZL, Bool.and_eq_true] at h
  simp only [repL] at hu
  simpa using sameZL_get h.2 hu.2 j z (by simpa using hz)
theorem zero_of (M : Mem) {e : TypeId} {k : Kind} (hz : zeroOk P e k = true) : ∃ i z, P.info? e = some i ∧ i.zero = some z ∧ z.cells.size = k.esz ∧ repX M k default z.cells.toList ∧ repV M k default z := by
 unfold zeroOk tzero at hz
 cases hi : P.info? e with
 | none => rw [hi] at hz; cases hz
 | some i =>
  rw [hi] at hz
  simp only [Option.bind_some] at hz
  cases hzz : i.zero with
  | none => rw [hzz] at hz; cases hz
  | some z =>
   rw [hzz] at hz
   simp only [Option.map_some, Bool.and_eq_true, beq_iff_eq] at hz
   obtain ⟨hg, hz⟩ := hz
   have hc := cells_avOf (ρ := ⟨fun _ => none, fun _ => none⟩) (M := M) z
   have hl : z.cells.toList.length = k.esz := by rw [← repL_length hc, ← sameZL_length hz, k.enc_length]
   have hX : repX M k default z.cells.toList := ⟨hl, fun j y hy => sameZL_get hz hc j y hy⟩
   refine ⟨i, z, rfl, hzz, by simpa using hl, hX, ?_, hX⟩
   have hav : ∀ v : Value, aggAV (av1 v) = false := fun v => by unfold av1; split <;> rfl
   split
   · rename_i ha
     rw [ha] at hg
     unfold avOf at hg
     split at hg
     · exact ⟨_, rfl⟩
     · rw [hav] at hg; cases hg
   · rename_i ha
     have ha : k.isAgg = false := by simpa using ha
     rw [ha] at hg
     rintro us rfl
     simp [avOf, aggAV] at hg

theorem repX_elem {k : Kind} {x : k.Ty} {us vs : List Value} {o : Nat} (h : repX M k x us) (hs : ∀ j, j < k.esz → vs[o + j]? = us[j]?) : ∀ (j : Nat) (y : AV), (k.enc x)[j]? = some y → ∃ u, vs[o + j]? = some u ∧ repE M y u := by
 intro j y hy
 obtain ⟨u, h1, h2⟩ := h.2 j y hy
 have hj : j < k.esz := by rw [← k.enc_length x]; exact (List.getElem?_eq_some_iff.1 hy).1
 exact ⟨u, by rw [hs j hj]; exact h1, h2⟩
theorem likeL_one {k : Kind} {l : List AV} {y : k.Ty} (hl : likeL l (k.enc y)) : l.all AV.one = true := by
 rw [List.all_eq_true]
 intro x hx
 obtain ⟨m, hm, rfl⟩ := List.mem_iff_getElem.1 hx
 have hm' : m < (k.enc y).length := by rw [← likeL_length hl]; exact hm
 obtain ⟨x', hx', hk⟩ := likeL_get hl m _ (List.getElem?_eq_getElem hm')
 rw [List.getElem?_eq_getElem hm] at hx'
 injection hx' with hx'
 rw [hx']
 rcases hk with hk | ⟨hk, _⟩
 · rw [hk]
   rcases k.enc_cell y m _ (List.getElem?_eq_getElem hm') with ⟨c, hc, _⟩ | hs
   · rw [hc]; rfl
   · generalize (k.enc y)[m] = z at hs
     cases z <;> simp [AV.isSc] at hs <;> rfl
 · rw [hk]; rfl
theorem dec_cells {k : Kind} {x : AV} {v : Value} {y : k.Ty} (hd : k.dec x.cells = some y) (hv : rep ρ M noG x v) : repX M k y v.cells.toList ∧ (∀ u ∈ v.cells.toList, u.oneCell' = true) := by
 obtain ⟨h1, h2⟩ := one_cellsL (likeL_one (k.dec_like hd)) hv
 exact ⟨k.dec_rep hd h1, h2⟩
theorem fillRows {k : Kind} (ht : ∀ i, rep ρ M noG (t.getD i .unk) (a.eval (.tmp i))) : ∀ (ps : List (Nat × Operand)) (i : Nat) (zs : List Value) (xs : List k.Ty), decAll k t i ps = some xs → zs.length = (i + xs.length) * k.esz →
  ∃ vs, Instr.fill (fun i => some (i * k.esz, k.esz)) ⟨zs⟩ (ps.map fun p => (p.1, a.eval p.2)) = some ⟨vs⟩ ∧ vs.length = zs.length ∧ (∀ m, m < i * k.esz → vs[m]? = zs[m]?) ∧
   (∀ (n : Nat) (y : k.Ty), xs[n]? = some y → ∃ us, repX M k y us ∧ ∀ j, j < k.esz → vs[(i + n) * k.esz + j]? = us[j]?)
 | [], i, zs, xs, h, hl => by
  simp only [decAll, Option.some.injEq] at h
  subst h
  exact ⟨zs, rfl, rfl, fun _ _ => rfl, fun n y hy => by simp at hy⟩
 | (i', x) :: ps, i, zs, xs, h, hl => by
   simp only [decAll] at h
   split at h
   case isFalse => cases h
   rename_i hii
   subst hii
   split at h
   case h_2 => cases h
   rename_i y ys hy hys
   injection h with h
   subst h
   obtain ⟨hx, hone⟩ := dec_cells hy (rep_opd ht x)
   have hlen := hx.1
   simp only [List.length_cons] at hl
   have hfit : i * k.esz + (a.eval x).cells.toList.length ≤ zs.length := by
    rw [hlen, hl, show i + (ys.length + 1) = (i + 1) + ys.length from by omega, Nat.add_mul, Nat.add_mul, Nat.one_mul]; omega
   obtain ⟨vs, h1, h2, h3, h4⟩ := fillRows ht ps (i + 1) (spliceV zs (i * k.esz) (a.eval x).cells.toList) ys hys (by rw [spliceV_length _ _ _ hfit, hl]; congr 1; omega)
   have hsz : (a.eval x).cells.size = k.esz := by simpa using hlen
   refine ⟨vs, ?_, by rw [h2, spliceV_length _ _ _ hfit], fun m hm => ?_, fun n z hz => ?_⟩
   · simp only [List.map_cons, Instr.fill, hsz, ne_eq, not_true_eq_false, decide_false, Bool.false_or]
     have hq : decide (i * k.esz + k.esz > (⟨zs⟩ : Array Value).size) = false := by
      have hfit := hfit
      rw [hlen] at hfit
      simp only [List.size_toArray, decide_eq_false_iff_not]
      omega
     simp only [hq, Bool.false_eq_true, if_false]
     have := fold_splice (i * k.esz) (a.eval x).cells.toList zs 0 (by simpa using hfit)
     rw [← Array.foldl_toList, Array.toList_zipIdx]
     simp only [Nat.add_zero] at this
     rw [this]
     exact h1
   · rw [h3 m (by rw [Nat.add_mul]; omega), spliceV_get _ _ _ _ hfit, if_neg (by omega)]
   · cases n with
     | zero =>
      simp at hz; subst hz
      refine ⟨_, hx, fun j hj => ?_⟩
      rw [Nat.add_zero, h3 _ (by rw [Nat.add_mul]; omega), spliceV_get _ _ _ _ hfit, if_pos ⟨by omega, by rw [hlen]; omega⟩]
      congr 1; omega
     | succ n =>
      obtain ⟨us, g1, g2⟩ := h4 n z (by simpa using hz)
      refine ⟨us, g1, fun j hj => ?_⟩
      rw [show i + (n + 1) = i + 1 + n from by omega]
      exact g2 j hj
theorem rows_elems {k : Kind} {xs : List k.Ty} {vs : List Value} (h : ∀ (n : Nat) (y : k.Ty), xs[n]? = some y → ∃ us, repX M k y us ∧ ∀ j, j < k.esz → vs[n * k.esz + j]? = us[j]?) : elems M ⟨k, xs⟩ vs := by
 intro i hi j x hx
 simp only [Coll.len] at hi
 obtain ⟨us, h1, h2⟩ := h i xs[i] (List.getElem?_eq_getElem hi)
 have hx' : (k.enc xs[i])[j]? = some x := by
  rw [← hx]; simp only [Coll.get]; congr 2
  simp only [List.getD_eq_getElem?_getD]; rw [List.getElem?_eq_getElem hi]; rfl
 exact repX_elem h1 h2 j x hx'

theorem buildSlice_new (H : SimH B w0 M0 h w ρ M) (ht : ∀ i, rep ρ M noG (t.getD i .unk) (a.eval (.tmp i))) {ty e : TypeId} {k : Kind} {len : Nat} {ps : List (Nat × Operand)} {xs : List k.Ty} (hu : P.underlying ty = some (.slice e)) (hk : kindOk P e k = true) (hz : zeroOk P e k = true)
  (hd : decAll k t 0 ps = some xs) (hl : xs.length = len) (hlim : len * k.esz ≤ 16777216) {nid : Nat} (hid : ρ nid = none) :
  ∃ v w' ρ' M', (Instr.buildSlice ty len ⟨ps.map fun p => (p.1, a.eval p.2)⟩).run P w = .ok v w' ∧ ρ.only ρ' [(nid, .vec false ⟨k, xs⟩)] ∧ M.le M' ∧ SimH B w0 M0 (hset h nid (.vec false ⟨k, xs⟩)) w' ρ' M' ∧ rep ρ' M' noG (.vec nid) v := by
 obtain ⟨i, z, hi, hzz, hzs, hzx, _⟩ := zero_of (P := P) M hz
 subst hl
 simp only [kindOk, Bool.and_eq_true, beq_iff_eq] at hk
 have hts := hk.1.1.1
 have hisz : i.size = k.esz := by rw [← hts]; simp [tsize, hi]
 have hsz := run_sizeOf (P := P) e w hk.1.1.2
 rw [hts] at hsz
 generalize hzl : ((Array.range (xs.length * k.esz)).map fun m => (if xs.length * k.esz = 0 then #[] else z.cells)[m % (if xs.length * k.esz = 0 then #[] else z.cells).size]!) = za
 have hzal : za.size = xs.length * k.esz := by rw [← hzl]; simp
 obtain ⟨vs, h1, h2, _, h4⟩ := fillRows (M := M) (ρ := ρ) ht ps 0 za.toList xs hd (by simp [hzal])
 simp only [Nat.zero_add] at h4
 obtain ⟨ρ', M', n1, n2, n3, n4⟩ := new_vec H hid false ⟨k, xs⟩ vs xs.length e (by rw [h2]; simp [hzal, Coll.esz]) (Nat.le_refl _) (by
  have := k.esz_pos
  have h3 : xs.length * 1 ≤ xs.length * k.esz := Nat.mul_le_mul_left _ this
  have hmx : maxLen = 9223372036854775807 := by decide
  omega) (rows_elems h4)
 refine ⟨_, _, ρ', M', ?_, n1, n2, n3, n4⟩
 have hlim' : ¬ (16777216 < xs.length * k.esz) := by omega
 have hfill : Instr.fill (fun i => some (i * k.esz, k.esz)) za (ps.map fun p => (p.1, a.eval p.2)) = some ⟨vs⟩ := h1
 by_cases h0 : xs.length * k.esz = 0
 · rw [if_pos h0] at hzl
   simp only [Instr.buildSlice, Sem.run_bind, run_underlying hu, Result.andThen_ok, hsz, Sem.run_ite, Nat.reducePow, gt_iff_lt, h0, if_true, Sem.run_pure]
   rw [h0] at hzl
   simp only [Array.range_zero', Array.map_empty] at hzl ⊢
   rw [hzl, hfill]
   simp [newRow, Coll.len]
 · rw [if_neg h0] at hzl
   simp only [Instr.buildSlice, Sem.run_bind, run_underlying hu, Result.andThen_ok, hsz, Sem.run_ite, Nat.reducePow, gt_iff_lt, hlim', if_false, h0, run_zeroValue hi hzz, Sem.run_pure]
   rw [hzl, hfill]
   simp [newRow, Coll.len]
theorem madeCells_get (z : Array Value) (n m : Nat) (h : m < n) : (madeCells z n).toList[m]? = some z[m % z.size]! := by
 simp [madeCells, h]
theorem makeSlice_new (H : SimH B w0 M0 h w ρ M) {ty e : TypeId} {k : Kind} {kl kc : IntKind} {l c : Int} (hu : P.underlying ty = some (.slice e)) (hk : kindOk P e k = true) (hz : zeroOk P e k = true)
  (h0 : 0 ≤ l) (hlc : l ≤ c) (hby : c * bytesOf P e ≤ 281474976710656) (h63 : c ≤ 9223372036854775807) (f : Bool) {nid : Nat} (hid : ρ nid = none) :
  ∃ v w' ρ' M', (Instr.makeSlice ty (.int kl l) (.int kc c)).run P w = .ok v w' ∧ ρ.only ρ' [(nid, .vec f ⟨k, List.replicate l.toNat default⟩)] ∧ M.le M' ∧ SimH B w0 M0 (hset h nid (.vec f ⟨k, List.replicate l.toNat default⟩)) w' ρ' M' ∧ rep ρ' M' noG (.vec nid) v := by
 obtain ⟨i, z, hi, hzz, hzs, hzx, _⟩ := zero_of (P := P) M hz
 simp only [kindOk, Bool.and_eq_true, beq_iff_eq] at hk
 have hts := hk.1.1.1
 have hisz : i.size = k.esz := by rw [← hts]; simp [tsize, hi]
 have hb : bytesOf P e = i.bytes := by simp [bytesOf, hi]
 have hrun := run_make (P := P) w ty e i z hu hi hzz kl kc l c h0 hlc (by rw [hb] at hby; rw [Int.mul_comm]; exact hby) h63
 rw [hisz] at hrun
 have hp := k.esz_pos
 obtain ⟨ρ', M', n1, n2, n3, n4⟩ := new_vec H hid f ⟨k, List.replicate l.toNat default⟩ (madeCells z.cells (c.toNat * k.esz)).toList c.toNat e (by simp [size_madeCells, Coll.esz]) (by simp [Coll.len]; omega) (by
  have hmx : maxLen = 9223372036854775807 := by decide
  omega) (rows_elems (k := k) (xs := List.replicate l.toNat default) fun n y hy => by
   have hn : n < l.toNat ∧ y = default := by
    rw [List.getElem?_replicate] at hy
    split at hy
    · rename_i hn; injection hy with hy; exact ⟨hn, hy.symm⟩
    · cases hy
   obtain ⟨hn, rfl⟩ := hn
   refine ⟨z.cells.toList, hzx, fun j hj => ?_⟩
   have hlt : n * k.esz + j < c.toNat * k.esz := by
    have : (n + 1) * k.esz ≤ c.toNat * k.esz := Nat.mul_le_mul_right _ (by omega)
    rw [Nat.add_mul] at this; omega
   rw [madeCells_get _ _ _ hlt, hzs]
   have hm : (n * k.esz + j) % k.esz = j := by rw [Nat.mul_comm, Nat.mul_add_mod]; exact Nat.mod_eq_of_lt hj
   rw [hm, getElem!_pos z.cells j (by rw [hzs]; exact hj)]
   simp [hzs, hj])
 refine ⟨_, _, ρ', M', hrun, n1, n2, n3, ?_⟩
 have : (Coll.mk k (List.replicate l.toNat default)).len = l.toNat := by simp [Coll.len]
 rw [this] at n4
 exact n4

theorem boundAV_run (ht : ∀ i, rep ρ M noG (t.getD i .unk) (a.eval (.tmp i))) {d : Int} {o : Option Operand} {l : Int} (hb : boundAV t d o = some l) : (o = none ∧ l = d) ∨ ∃ x k, o = some x ∧ a.eval x = .int k l := by
 cases o with
 | none => simp only [boundAV, Option.some.injEq] at hb; exact .inl ⟨rfl, hb.symm⟩
 | some x =>
  simp only [boundAV] at hb
  split at hb
  · rename_i k i hx
    injection hb with hb; subst hb
    have := rep_opd ht x
    rw [hx] at this
    simp only [rep] at this
    exact .inr ⟨x, k, rfl, this⟩
  · cases hb
theorem sliceBounds_run {lo hi : Option Operand} (hs : Bool) {l r : Int} {n cap : Nat} (hlo : (lo = none ∧ l = 0) ∨ ∃ x k, lo = some x ∧ a.eval x = .int k l) (hhi : (hi = none ∧ r = n) ∨ ∃ x k, hi = some x ∧ a.eval x = .int k r)
  (h0 : 0 ≤ l) (h1 : l ≤ r) (h2 : r ≤ n) (hc : n ≤ cap) (w : World) : (Instr.sliceBounds hs n cap (lo.map a.eval) (hi.map a.eval) none).run P w = .ok (l.toNat, r.toNat, cap) w := by
 have hr : r ≤ cap := by omega
 have h0r : 0 ≤ r := by omega
 rcases hlo with ⟨rfl, rfl⟩ | ⟨x, k, rfl, hx⟩ <;> rcases hhi with ⟨rfl, rfl⟩ | ⟨y, k', rfl, hy⟩ <;>
  simp_all [Instr.sliceBounds, Instr.sliceBound, asIntOf] <;> omega
theorem slice_string (ht : ∀ i, rep ρ M noG (t.getD i .unk) (a.eval (.tmp i))) {ty : TypeId} {s : ByteArray} {lo hi : Option Operand} {l r : Int} (hu : P.underlying ty = some .string) (hlo : boundAV t 0 lo = some l) (hhi : boundAV t s.size hi = some r)
  (h0 : 0 ≤ l) (h1 : l ≤ r) (h2 : r ≤ s.size) (w : World) : (Instr.sliceAt ty (.string s) (lo.map a.eval) (hi.map a.eval) none).run P w = .ok (.string (s.extract l.toNat r.toNat)) w := by
 have := sliceBounds_run (P := P) (a := a) false (n := s.size) (cap := s.size) (boundAV_run (M := M) (ρ := ρ) ht hlo) (boundAV_run (M := M) (ρ := ρ) ht hhi) h0 h1 h2 (Nat.le_refl _) w
 simp [Instr.sliceAt, Instr.slice, run_underlying hu, this]
theorem slice_coll (ht : ∀ i, rep ρ M noG (t.getD i .unk) (a.eval (.tmp i))) {ty e : TypeId} {c : Coll} {v : Value} {lo hi : Option Operand} {l r : Int} (hu : P.underlying ty = some (.slice e)) (hi' : (P.info? e).isSome = true) (hs : tsize P e = c.esz)
  (hlo : boundAV t 0 lo = some l) (hhi : boundAV t c.len hi = some r) (h0 : 0 ≤ l) (h1 : l ≤ r) (h2 : r ≤ c.len) (hv : rep ρ M noG (.coll c) v) (w : World) :
  ∃ u, (Instr.sliceAt ty v (lo.map a.eval) (hi.map a.eval) none).run P w = .ok u w ∧ rep ρ M noG (.coll (c.sub l.toNat r.toNat)) u := by
 simp only [rep] at hv
 obtain ⟨ad, cap, rfl, hl, hrd⟩ := hv
 have hb := sliceBounds_run (P := P) (a := a) true (n := c.len) (cap := cap) (boundAV_run (M := M) (ρ := ρ) ht hlo) (boundAV_run (M := M) (ρ := ρ) ht hhi) h0 h1 h2 hl w
 have hlen : (c.sub l.toNat r.toNat).len = r.toNat - l.toNat := by simp [Coll.sub, Coll.len] at h2 ⊢; omega
 refine ⟨.slice (if cap = l.toNat then ad else ad.map (·.add (l.toNat * c.esz))) (r.toNat - l.toNat) (cap - l.toNat), ?_, ?_⟩
 · simp only [Instr.sliceAt, Instr.slice, Sem.run_bind, run_underlying hu, Result.andThen_ok, hb, run_sizeOf e w hi', hs, Sem.run_pure]
 · simp only [rep]
   refine ⟨_, _, by rw [hlen], by rw [hlen]; omega, fun hp => ?_⟩
   rw [hlen] at hp
   obtain ⟨b, o, rfl, hr⟩ := hrd (by omega)
   rw [if_neg (by omega)]
   refine ⟨b, o + l.toNat * c.esz, by simp [Addr.add_lit], fun i hi j x hx => ?_⟩
   rw [hlen] at hi
   have hx' : (c.get (l.toNat + i))[j]? = some x := by
    rw [← hx]
    simp only [Coll.get, Coll.sub]
    congr 2
    simp only [List.getD_eq_getElem?_getD]
    rw [List.getElem?_drop, List.getElem?_take, if_pos (by omega)]
    rfl
   obtain ⟨u, hu, hm⟩ := hr (l.toNat + i) (by omega) j x hx'
   refine ⟨u, ?_, hm⟩
   rw [← hu, Nat.add_mul, ← Nat.add_assoc]
   rfl
theorem slice_vec (H : SimH B w0 M0 h w ρ M) (ht : ∀ i, rep ρ M noG (t.getD i .unk) (a.eval (.tmp i))) {ty e : TypeId} {f : Bool} {c : Coll} {id : Nat} {v : Value} {lo hi : Option Operand} {l r : Int} (ho : hget h id = .vec f c) (hu : P.underlying ty = some (.slice e)) (hi' : (P.info? e).isSome = true) (hs : tsize P e = c.esz)
  (hlo : boundAV t 0 lo = some l) (hhi : boundAV t c.len hi = some r) (h0 : 0 ≤ l) (h1 : l ≤ r) (h2 : r ≤ c.len) (hv : rep ρ M noG (.vec id) v) :
  ∃ u, (Instr.sliceAt ty v (lo.map a.eval) (hi.map a.eval) none).run P w = .ok u w ∧ rep ρ M noG (.vsub id c.esz l.toNat r.toNat) u := by
 have hobj := H.obj id
 rw [ho] at hobj
 obtain ⟨hh, g1, g2⟩ := hobj
 simp only [rep] at hv
 have hv := hv.2
 rw [g1] at hv
 injection hv with hv
 injection hv with hv
 subst hv
 obtain ⟨ad, cap, rfl, hl, hb⟩ : ∃ ad cap, hh = .slice ad c.len cap ∧ c.len ≤ cap ∧ (0 < c.len → ∃ r, ad = some ⟨r, 0, none⟩) := by
  rcases g2 with ⟨rfl, g2⟩ | ⟨r, cap, vs, t, rfl, _, _, _, k5, _⟩
  · exact ⟨none, 0, by rw [g2], by omega, fun h => by omega⟩
  · exact ⟨_, cap, rfl, k5, fun _ => ⟨r, rfl⟩⟩
 have hbd := sliceBounds_run (P := P) (a := a) true (n := c.len) (cap := cap) (boundAV_run (M := M) (ρ := ρ) ht hlo) (boundAV_run (M := M) (ρ := ρ) ht hhi) h0 h1 h2 hl w
 refine ⟨.slice (if cap = l.toNat then ad else ad.map (·.add (l.toNat * c.esz))) (r.toNat - l.toNat) (cap - l.toNat), ?_, ?_⟩
 · simp only [Instr.sliceAt, Instr.slice, Sem.run_bind, run_underlying hu, Result.andThen_ok, hbd, run_sizeOf e w hi', hs, Sem.run_pure]
 · simp only [rep]
   refine ⟨by omega, _, _, _, g1, rfl, fun hlt => ?_⟩
   obtain ⟨r', rfl⟩ := hb (by omega)
   exact ⟨r', _, _, rfl, by omega, by rw [if_neg (by omega)]; simp [Addr.add_lit]⟩

theorem store_evp (H : SimH B w0 M0 h w ρ M) {ty : TypeId} {c : Coll} {id i off : Nat} {x : AV} {p v : Value} {y : c.k.Ty} (ho : hget h id = .vec false c) (hp : rep ρ M noG (.evp id c.esz i off) p) (hv : rep ρ M noG x v)
  (hi : (P.info? ty).isSome = true) (hl : x.cells.length = tsize P ty) (hoff : off + x.cells.length ≤ c.esz) (h1 : x.cells.all AV.one = true) (hd : c.k.dec (splice (c.get i) off x.cells) = some y) :
  ∃ w', (Instr.storeAt ty p v).run P w = .ok () w' ∧ SimH B w0 M0 (hset h id (.vec false (c.set i y))) w' ρ M := by
 obtain ⟨hc, hone⟩ := one_cellsL h1 hv
 have hlc := repL_length hc
 have hobj := H.obj id
 rw [ho] at hobj
 obtain ⟨hh, g1, g2⟩ := hobj
 simp only [rep] at hp
 obtain ⟨_, r, n, cap, h4, hi', rfl⟩ := hp
 rw [g1] at h4
 injection h4 with h4
 injection h4 with h4
 subst h4
 rcases g2 with ⟨g2, _⟩ | ⟨r', cap', vs, ct, e, k2, k3, k4, k5, k6, k7, k8, _⟩
 · cases g2
 injection e with e1 e2 e3
 injection e1 with e1
 injection e1 with e1
 subst e1; subst e2; subst e3
 have hnB := (H.own _ _ k2).1
 have hrl := (Array.getElem?_eq_some_iff.1 k3).1
 have hrow : (i + 1) * c.esz ≤ cap * c.esz := Nat.mul_le_mul_right _ (by omega)
 have hfit : i * c.esz + off + v.cells.toList.length ≤ vs.length := by rw [k4, ← hlc]; rw [Nat.add_mul] at hrow; omega
 have hst := run_storeCells (P := P) (r := r) (o := i * c.esz + off) v.cells.toList vs 0 w k3 (by simpa using hfit) hone
 refine ⟨putCells w r (spliceV vs (i * c.esz + off) v.cells.toList) ct, ?_, ?_⟩
 · simp only [Instr.storeAt, Instr.sureAddr, Sem.run_bind, Sem.run_pure, Result.andThen_ok, storeVar, run_sizeOf ty w hi]
   have hz : v.cells.size = tsize P ty := by rw [← hl, hlc]; simp
   simp only [hz, ne_eq, not_true_eq_false, if_false]
   simpa using hst
 · refine H.update id _ (fun _ _ => rfl) (Loc.le_refl _) (Mem.le_refl _) ?_ ?_ (fun r' i hr' => ⟨(H.own r' i hr').1, by rw [putCells_size]; exact (H.own r' i hr').2⟩) ?_ (fun _ _ _ => rfl) (putCells_below hnB)
   · have hset : (c.set i y).len = c.len ∧ (c.set i y).esz = c.esz := ⟨by simp [Coll.set, Coll.len], rfl⟩
     have hk8 : ∀ off, M r off = none := fun off => k8 off (.inl rfl)
     refine ⟨_, g1, .inr ⟨r, cap, _, ct, by rw [hset.1], k2, putCells_at hrl, by rw [spliceV_length _ _ _ hfit, hset.2]; exact k4, by rw [hset.1]; exact k5, k6, ?_, fun off _ => hk8 off, fun hf => by cases hf⟩⟩

     have hold : ∃ us : List Value, us.length = c.esz ∧ (∀ m, m < c.esz → us[m]? = vs[i * c.esz + m]?) ∧ repL ρ M noG (c.get i) us := by
      refine ⟨(vs.drop (i * c.esz)).take c.esz, by rw [List.length_take, List.length_drop, k4]; rw [Nat.add_mul] at hrow; omega, fun m hm => by rw [List.getElem?_take, if_pos hm, List.getElem?_drop], ?_⟩
      have hgl := c.get_length i
      have key : ∀ (l : List AV) (us : List Value), l.length = us.length → (∀ (j : Nat) (x : AV), l[j]? = some x → ∃ u : Value, us[j]? = some u ∧ rep ρ M noG x u) → repL ρ M noG l us := by
       intro l
       induction l with
       | nil => intro us hl _; cases us <;> simp [repL] at hl ⊢
       | cons x l ih =>
        intro us hl hx
        cases us with
        | nil => simp at hl
        | cons u us =>
         simp only [repL]
         obtain ⟨u', h1, h2⟩ := hx 0 x rfl
         simp at h1; subst h1
         exact ⟨h2, ih us (by simpa using hl) fun j z hz => by simpa using hx (j + 1) z (by simpa using hz)⟩
      refine key _ _ (by rw [hgl, List.length_take, List.length_drop, k4]; rw [Nat.add_mul] at hrow; omega) fun j x hx => ?_
      obtain ⟨u, hu, hm⟩ := k7 i hi' j x hx
      refine ⟨u, by rw [List.getElem?_take, if_pos (Coll.get_some hx), List.getElem?_drop]; exact hu, ?_⟩
      rcases Coll.get_cell hx with ⟨c', rfl⟩ | hs
      · exact repC_up _ _ _ hm
      · cases x <;> simp [AV.isSc] at hs <;> simpa [repE, sc, rep] using hm
     obtain ⟨us, hul, huv, hur⟩ := hold
     have hnew := c.k.dec_rep hd (repL_splice off hur hc)
     have hfit2 : off + v.cells.toList.length ≤ us.length := by rw [hul, ← hlc]; exact hoff
     intro i2 hi2 j z hz
     rw [hset.1] at hi2
     rw [hset.2]
     have hj : j < c.esz := Coll.get_some (c := c.set i y) hz
     by_cases hii : i2 = i
     · subst hii
       have hz' : (c.k.enc y)[j]? = some z := by
        rw [← hz]; simp only [Coll.get, Coll.set]; congr 2
        simp only [List.getD_eq_getElem?_getD]
        rw [List.getElem?_set_self (by exact hi2)]; rfl
       obtain ⟨u, hu, hm⟩ := hnew.2 j z hz'
       refine ⟨u, ?_, hm⟩
       rw [← hu, spliceV_get _ _ _ _ hfit, spliceV_get _ _ _ _ hfit2]
       by_cases hc1 : off ≤ j ∧ j < off + v.cells.toList.length
       · rw [if_pos hc1, if_pos (by omega)]; congr 1; omega
       · rw [if_neg hc1, if_neg (by omega), huv j hj]
     · have hz' : (c.get i2)[j]? = some z := by
         rw [← hz]; simp only [Coll.get, Coll.set]; congr 2
         simp only [List.getD_eq_getElem?_getD]
         rw [List.getElem?_set_ne (Ne.symm hii)]; rfl
       obtain ⟨u, hu, hm⟩ := k7 i2 hi2 j z hz'
       refine ⟨u, ?_, hm⟩
       rw [spliceV_get _ _ _ _ hfit, if_neg]
       · exact hu
       · rw [← hlc]
         rintro ⟨q1, q2⟩
         rcases Nat.lt_or_gt_of_ne hii with hlt | hgt
         · have : (i2 + 1) * c.esz ≤ i * c.esz := Nat.mul_le_mul_right _ hlt
           rw [Nat.add_mul] at this; omega
         · have : (i + 1) * c.esz ≤ i2 * c.esz := Nat.mul_le_mul_right _ hgt
           rw [Nat.add_mul] at this; omega
   · intro i2 r' hne hd hr'
     refine ⟨hr', putCells_ne fun e => hne ?_, fun _ h => h⟩
     subst e
     rw [k2] at hr'
     injection hr' with hr'
     exact hr'.symm
   · intro b o u hu
     have := H.mem b o u hu
     have hb : b ≠ r := fun e => by subst e; rw [k8 o (.inl rfl)] at hu; cases hu
     rw [← this]
     unfold World.cell?
     simp only []
     rw [putCells_ne hb]
end
end Go.Eng
end
section
namespace Go.Eng
open Go.RowKit (Below)

section
variable {P : Program} {B : Nat → Prop} {w0 w : World} {M0 M : Mem} {h hr : List AObj} {ρ : Loc} {t : List AV} {a : Act}

def Kind.plainK : Kind → Bool
 | .int _ | .bool | .str => true
 | _ => false
theorem repV_int {k : IntKind} {x : Int} {v : Value} (h : repV M (.int k) x v) : v = .int k x := by
 obtain ⟨h1, h2, h3⟩ := h
 obtain ⟨u, hu, hr⟩ := h3 0 (.int k x) rfl
 simp only [Kind.isAgg, Bool.false_eq_true, if_false] at h1
 have hc : v.cells = #[v] := by cases v <;> first | rfl | exact absurd rfl (h1 _)
 rw [hc] at hu
 simp at hu
 subst hu
 exact hr
theorem repV_bool {x : Bool} {v : Value} (h : repV M .bool x v) : v = .bool x := by
 obtain ⟨h1, h2, h3⟩ := h
 obtain ⟨u, hu, hr⟩ := h3 0 (.bool x) rfl
 simp only [Kind.isAgg, Bool.false_eq_true, if_false] at h1
 have hc : v.cells = #[v] := by cases v <;> first | rfl | exact absurd rfl (h1 _)
 rw [hc] at hu
 simp at hu
 subst hu
 exact hr
theorem repV_str {x : ByteArray} {v : Value} (h : repV M .str x v) : v = .string x := by
 obtain ⟨h1, h2, h3⟩ := h
 obtain ⟨u, hu, hr⟩ := h3 0 (.str x) rfl
 simp only [Kind.isAgg, Bool.false_eq_true, if_false] at h1
 have hc : v.cells = #[v] := by cases v <;> first | rfl | exact absurd rfl (h1 _)
 rw [hc] at hu
 simp at hu
 subst hu
 exact hr
theorem repV_key {x : XKey} {v : Value} (h : repV M .key x v) : v = .agg #[.int .u8 x.kind, .string x.name] := by
 obtain ⟨h1, h2, h3⟩ := h
 obtain ⟨u, hu, hr⟩ := h3 0 (.int .u8 x.kind) rfl
 obtain ⟨u', hu', hr'⟩ := h3 1 (.str x.name) rfl
 simp only [Kind.isAgg, if_true] at h1
 obtain ⟨us, rfl⟩ := h1
 simp only [repE, sc] at hr hr'
 subst hr; subst hr'
 have h2 : us.toList.length = 2 := h2
 congr 1
 apply Array.ext'
 have hu : us.toList[0]? = some _ := hu
 have hu' : us.toList[1]? = some _ := hu'
 revert h2 hu hu'
 generalize us.toList = l
 intro h2 hu hu'
 match l, h2 with
 | [a, b], _ => simp at hu hu'; simp [hu, hu']
theorem repV_tgt {x : XTgt} {v : Value} (h : repV M .tgt x v) : v = .agg #[.bool x.snap, .string x.name] := by
 obtain ⟨h1, h2, h3⟩ := h
 obtain ⟨u, hu, hr⟩ := h3 0 (.bool x.snap) rfl
 obtain ⟨u', hu', hr'⟩ := h3 1 (.str x.name) rfl
 simp only [Kind.isAgg, if_true] at h1
 obtain ⟨us, rfl⟩ := h1
 simp only [repE, sc] at hr hr'
 subst hr; subst hr'
 have h2 : us.toList.length = 2 := h2
 congr 1
 apply Array.ext'
 have hu : us.toList[0]? = some _ := hu
 have hu' : us.toList[1]? = some _ := hu'
 revert h2 hu hu'
 generalize us.toList = l
 intro h2 hu hu'
 match l, h2 with
 | [a, b], _ => simp at hu hu'; simp [hu, hu']
theorem eqb_eq {k : Kind} {x y : k.Ty} (h : k.eqb x y = true) : x = y := by
 cases k <;> simp only [Kind.eqb] at h
 case int => simpa using h
 case bool => simpa using h
 case str => simpa using h
 case key => obtain ⟨a, b⟩ := x; obtain ⟨c, d⟩ := y; simpa using h
 case tgt => obtain ⟨a, b⟩ := x; obtain ⟨c, d⟩ := y; simpa using h
 all_goals cases h

theorem bytes_beq (a b : ByteArray) : (a == b) = decide (a = b) := by
 obtain ⟨a⟩ := a
 obtain ⟨b⟩ := b
 show ByteArray.beq ⟨a⟩ ⟨b⟩ = _
 unfold ByteArray.beq
 rw [Bool.eq_iff_iff]
 simp
theorem sameNow_run {kt : TypeId} {k : Kind} (hk : keyOk P kt k = true) (hp : k.plainK = true) {x y : k.Ty} {u v : Value} (hu : repV M k x u) (hv : repV M k y v) : ∃ d, P.underlying kt = some d ∧ Instr.sameNow d u v = some (k.eqb x y) := by
 cases k <;> simp [Kind.plainK] at hp
 case int j =>
  simp only [keyOk, scalarOk] at hk
  split at hk
  · rename_i j' hd
    rw [repV_int hu, repV_int hv]
    exact ⟨_, hd, by simp [Instr.sameNow, Kind.eqb]⟩
  · cases hk
 case bool =>
  simp only [keyOk, scalarOk] at hk
  split at hk
  · rename_i hd
    rw [repV_bool hu, repV_bool hv]
    exact ⟨_, hd, by simp [Instr.sameNow, Kind.eqb]⟩
  · cases hk
 case str =>
  simp only [keyOk, scalarOk] at hk
  split at hk
  · rename_i hd
    rw [repV_str hu, repV_str hv]
    exact ⟨_, hd, by simp only [Instr.sameNow, Kind.eqb]; rw [bytes_beq]⟩
  · cases hk
structure PairOk (P : Program) (t : TypeId) (k1 k2 : Kind) : Prop where
 ex : ∃ f g : Field, P.underlying t = some (.struct #[f, g]) ∧ f.name ≠ "_" ∧ g.name ≠ "_" ∧ f.offset = 0 ∧ g.offset = 1 ∧ tsize P f.type = 1 ∧ tsize P g.type = 1 ∧ tagg P f.type = false ∧ tagg P g.type = false ∧ scalarOk P f.type k1 = true ∧ scalarOk P g.type k2 = true ∧ P.stoodInHeld t = false
theorem pairOk_ex {t : TypeId} {k1 k2 : Kind} (hk : pairOk P t k1 k2 = true) : PairOk P t k1 k2 := by
 unfold pairOk at hk
 split at hk
 · rename_i fs hd
   split at hk
   · rename_i f g hfs
     simp only [Bool.and_eq_true, bne_iff_ne, beq_iff_eq, Bool.not_eq_true', ne_eq] at hk
     obtain ⟨⟨⟨⟨⟨⟨⟨⟨⟨⟨h1, h2⟩, h3⟩, h4⟩, h5⟩, h6⟩, h7⟩, h8⟩, h9⟩, h10⟩, h11⟩ := hk
     have : fs = #[f, g] := by apply Array.ext'; exact hfs
     subst this
     exact ⟨f, g, hd, h1, h2, h3, h4, h5, h6, h7, h8, h9, h10, h11⟩
   · cases hk
 · cases hk
theorem under_of_scalar {t : TypeId} {k : Kind} (h : scalarOk P t k = true) : ∃ d, P.underlying t = some d ∧ (∀ s, d ≠ .struct s) ∧ (∀ n e, d ≠ .array n e) ∧ (∀ m, d ≠ .interface m) := by
 unfold scalarOk at h
 split at h <;> first | (split at h <;> first | (rename_i hd; exact ⟨_, hd, by simp, by simp, by simp⟩) | cases h) | cases h
theorem run_part0 {t : TypeId} {k : Kind} (hs : scalarOk P t k = true) (hg : tagg P t = false) (u v : Value) (w : World) : (part t #[u, v] 0).run P w = .ok u w ∧ (part t #[u, v] 1).run P w = .ok v w := by
 obtain ⟨d, hd, _⟩ := under_of_scalar hs
 constructor <;> simp [part, run_isAgg t w (by rw [hd]; rfl), hg]
theorem equal_pair {t : TypeId} {k1 k2 : Kind} (hk : pairOk P t k1 k2 = true) (a b c d : Value) (r1 r2 : Bool) (h1 : ∀ (f : TypeId), scalarOk P f k1 = true → ∀ n (w : World), (Op.equalIn (n + 1) f a c).run P w = .ok r1 w)
  (h2 : ∀ (f : TypeId), scalarOk P f k2 = true → ∀ n (w : World), (Op.equalIn (n + 1) f b d).run P w = .ok r2 w) (w : World) : (Op.equal t (.agg #[a, b]) (.agg #[c, d])).run P w = .ok (r1 && r2) w := by
 obtain ⟨f, g, hd, n1, n2, o1, o2, s1, s2, g1, g2, q1, q2, hst⟩ := (pairOk_ex hk).ex
 have hfs : P.fieldsOf t = #[f, g] := by simp [Program.fieldsOf, hd]
 show (Op.equalIn (9999 + 1) t _ _).run P w = _
 rw [run_equalIn_struct w 9999 t #[a, b] #[c, d] (by rw [hfs]; exact hd) hst, hfs]
 obtain ⟨p1, _⟩ := run_part0 q1 g1 a b w
 obtain ⟨p2, _⟩ := run_part0 q1 g1 c d w
 obtain ⟨_, p3⟩ := run_part0 q2 g2 a b w
 obtain ⟨_, p4⟩ := run_part0 q2 g2 c d w
 have e1 := h1 f.type q1 9998 w
 have e2 := h2 g.type q2 9998 w
 have er : (Op.eqFields 9999 #[a, b] #[c, d] [g]).run P w = .ok r2 w := by
  simp only [Op.eqFields, if_pos n2, o2, Sem.run_bind, p3, p4, Result.andThen_ok, e2]
  cases r2 <;> simp
 show (Op.eqFields 9999 _ _ [f, g]).run P w = _
 rw [Op.eqFields]
 simp only [if_pos n1, o1, Sem.run_bind, p1, p2, Result.andThen_ok, e1]
 cases r1
 · simp
 · simpa using er
theorem eq_int {k : IntKind} {x y : Int} (f : TypeId) (hs : scalarOk P f (.int k) = true) (n : Nat) (w : World) : (Op.equalIn (n + 1) f (.int k x) (.int k y)).run P w = .ok (x == y) w := by
 simp only [scalarOk] at hs
 split at hs
 · rename_i j hd; exact run_equalIn_int w n f k j x y hd
 · cases hs
theorem eq_bool {x y : Bool} (f : TypeId) (hs : scalarOk P f .bool = true) (n : Nat) (w : World) : (Op.equalIn (n + 1) f (.bool x) (.bool y)).run P w = .ok (x == y) w := by
 simp only [scalarOk] at hs
 split at hs
 · rename_i hd; exact run_equalIn_bool' w n f _ _ hd
 · cases hs
theorem eq_str {x y : ByteArray} (f : TypeId) (hs : scalarOk P f .str = true) (n : Nat) (w : World) : (Op.equalIn (n + 1) f (.string x) (.string y)).run P w = .ok (decide (x = y)) w := by
 simp only [scalarOk] at hs
 split at hs
 · rename_i hd; rw [run_equalIn_string w n f _ _ hd, toList_inj]
 · cases hs
theorem equal_key {kt : TypeId} {k : Kind} (hk : keyOk P kt k = true) (hp : k.plainK = false) {x y : k.Ty} {u v : Value} (hu : repV M k x u) (hv : repV M k y v) (w : World) : (Op.equal kt u v).run P w = .ok (k.eqb x y) w := by
 cases k <;> simp [keyOk] at hk <;> simp [Kind.plainK] at hp
 case key =>
  rw [repV_key hu, repV_key hv]
  exact equal_pair hk _ _ _ _ _ _ (fun f hf n w => eq_int f hf n w) (fun f hf n w => eq_str f hf n w) w
 case tgt =>
  rw [repV_tgt hu, repV_tgt hv]
  exact equal_pair hk _ _ _ _ _ _ (fun f hf n w => eq_bool f hf n w) (fun f hf n w => eq_str f hf n w) w

def kfind {k v : Kind} (x : k.Ty) : List (k.Ty × v.Ty) → List MapEntry → Nat → Option (Nat × Value)
 | e :: r, m :: ms, i => if k.eqb x e.1 then some (i, m.val) else kfind x r ms (i + 1)
 | _, _, _ => none
theorem findKey_run {kt : TypeId} {k v : Kind} (hk : keyOk P kt k = true) {x : k.Ty} {u : Value} (hu : repV M k x u) {xs : List (k.Ty × v.Ty)} {es : List MapEntry} (he : repEs M k v xs es) (w : World) :
  (Instr.findKey kt u es).run P w = .ok (kfind x xs es 0) w := by
 unfold Instr.findKey
 by_cases hp : k.plainK = true
 · have key : ∀ (xs : List (k.Ty × v.Ty)) (es : List MapEntry) (i : Nat), repEs M k v xs es → ∀ d, P.underlying kt = some d → Instr.findNow d u es i = some (kfind x xs es i) := by
     intro xs
     induction xs with
     | nil => intro es i he d hd; cases es <;> simp [repEs] at he; simp [Instr.findNow, kfind]
     | cons e xs ih =>
      intro es i he d hd
      cases es with
      | nil => simp [repEs] at he
      | cons m es =>
       simp only [repEs] at he
       obtain ⟨d', hd', hn⟩ := sameNow_run hk hp hu he.1
       rw [hd] at hd'
       injection hd' with hd'
       subst hd'
       simp only [Instr.findNow, hn, kfind]
       cases k.eqb x e.1
       · simpa using ih es (i + 1) he.2.2 d hd
       · simp
   obtain ⟨d, hd⟩ : ∃ d, P.underlying kt = some d := by
    obtain ⟨d, hd, _⟩ := sameNow_run hk hp hu hu
    exact ⟨d, hd⟩
   simp only [Sem.run_bind, run_underlying hd, Result.andThen_ok, key xs es 0 he d hd, Sem.run_pure]
 · have hp : k.plainK = false := by simpa using hp
   have key : ∀ (xs : List (k.Ty × v.Ty)) (es : List MapEntry) (i : Nat), repEs M k v xs es → (Instr.findAsking kt u es i).run P w = .ok (kfind x xs es i) w := by
    intro xs
    induction xs with
    | nil => intro es i he; cases es <;> simp [repEs] at he; simp [Instr.findAsking, kfind]
    | cons e xs ih =>
     intro es i he
     cases es with
     | nil => simp [repEs] at he
     | cons m es =>
      simp only [repEs] at he
      simp only [Instr.findAsking, Sem.run_bind, equal_key hk hp hu he.1 w, Result.andThen_ok, kfind]
      cases k.eqb x e.1
      · simpa using ih es (i + 1) he.2.2
      · simp
   obtain ⟨d, hd, hns⟩ : ∃ d, P.underlying kt = some d ∧ ∃ s, d = .struct s := by
    cases k <;> simp [keyOk] at hk <;> simp [Kind.plainK] at hp <;> (obtain ⟨f, g, hd, _⟩ := (pairOk_ex hk).ex; exact ⟨_, hd, _, rfl⟩)
   obtain ⟨s, rfl⟩ := hns
   simp only [Sem.run_bind, run_underlying hd, Result.andThen_ok]
   cases es with
   | nil => cases xs <;> simp [repEs] at he; simp [Instr.findNow, kfind]
   | cons m es =>
    have : Instr.findNow (.struct s) u (m :: es) 0 = none := by
     simp only [Instr.findNow]
     have : Instr.sameNow (.struct s) u m.key = none := by simp [Instr.sameNow]
     rw [this]
    rw [this]
    exact key xs (m :: es) 0 he
theorem checkKey_run {kt : TypeId} {k : Kind} (hk : keyOk P kt k = true) {x : k.Ty} {u : Value} (hu : repV M k x u) (b : Bool) (w : World) : (Instr.checkKey b 10000 kt u).run P w = .ok () w := by
 have plain : ∀ (n : Nat) (f : TypeId) (k' : Kind) (v : Value), scalarOk P f k' = true → (Instr.checkKey b (n + 1) f v).run P w = .ok () w := by
  intro n f k' v hs
  obtain ⟨d, hd, h1, h2, h3⟩ := under_of_scalar hs
  simp only [Instr.checkKey, Sem.run_bind, run_underlying hd, Result.andThen_ok]
  cases d <;> first | rfl | exact absurd rfl (h1 _) | exact absurd rfl (h2 _ _) | exact absurd rfl (h3 _)
 have pair : ∀ (n : Nat) (k1 k2 : Kind) (a c : Value), pairOk P kt k1 k2 = true → (Instr.checkKey b (n + 2) kt (.agg #[a, c])).run P w = .ok () w := by
  intro n k1 k2 a c hp
  obtain ⟨f, g, hd, n1, n2, o1, o2, s1, s2, g1, g2, q1, q2, hst⟩ := (pairOk_ex hp).ex
  have p1 := (run_part0 q1 g1 a c w).1
  have p2 := (run_part0 q2 g2 a c w).2
  have e1 := plain n f.type k1 a q1
  have e2 := plain n g.type k2 c q2
  rw [show n + 2 = (n + 1) + 1 from rfl, Instr.checkKey]
  simp only [Sem.run_bind, run_underlying hd, Result.andThen_ok]
  simp [n1, n2, o1, o2, p1, p2, e1, e2]
 cases k <;> simp [keyOk] at hk
 case int j => exact plain 9999 kt _ _ hk
 case bool => exact plain 9999 kt _ _ hk
 case str => exact plain 9999 kt _ _ hk
 case key => rw [repV_key hu]; exact pair 9998 _ _ _ _ hk
 case tgt => rw [repV_tgt hu]; exact pair 9998 _ _ _ _ hk
theorem kfind_get {k v : Kind} (x : k.Ty) : ∀ (xs : List (k.Ty × v.Ty)) (es : List MapEntry) (i : Nat), repEs M k v xs es →
  (kfind x xs es i = none ∧ mget xs x = none) ∨ ∃ j y u, kfind x xs es i = some (i + j, u) ∧ mget xs x = some y ∧ repV M v y u ∧ j < es.length
 | [], [], i, _ => .inl ⟨rfl, rfl⟩
 | e :: xs, m :: es, i, he => by
  simp only [repEs] at he
  simp only [kfind, mget]
  by_cases hb : k.eqb x e.1 = true
  · rw [if_pos hb, if_pos hb]
    exact .inr ⟨0, e.2, m.val, rfl, rfl, he.2.1, by simp⟩
  · rw [if_neg hb, if_neg hb]
    rcases kfind_get x xs es (i + 1) he.2.2 with h | ⟨j, y, u, h1, h2, h3, h4⟩
    · exact .inl h
    · exact .inr ⟨j + 1, y, u, by rw [h1]; congr 2; omega, h2, h3, by simp; omega⟩
 | [], _ :: _, _, he => by simp [repEs] at he
 | _ :: _, [], _, he => by simp [repEs] at he
theorem kfind_set {k v : Kind} (x : k.Ty) (y : v.Ty) (ku vu : Value) (hku : repV M k x ku) (hvu : repV M v y vu) : ∀ (xs : List (k.Ty × v.Ty)) (es : List MapEntry) (i : Nat), repEs M k v xs es →
  (kfind x xs es i = none → ∀ b, repEs M k v (mset xs x y) (es ++ [{ key := ku, val := vu, born := b }])) ∧
  (∀ j u, kfind x xs es i = some (i + j, u) → repEs M k v (mset xs x y) (es.modify j fun e => { e with key := ku, val := vu }) ∧ ∃ e, es[j]? = some e ∧ repV M k x e.key)
 | [], [], i, _ => ⟨fun _ b => by simp [mset, repEs]; exact ⟨hku, hvu⟩, fun j u h => by simp [kfind] at h⟩
 | e :: xs, m :: es, i, he => by
  simp only [repEs] at he
  simp only [kfind, mset]
  by_cases hb : k.eqb x e.1 = true
  · rw [if_pos hb, if_pos hb]
    refine ⟨fun h => (by cases h), fun j u h => ?_⟩
    simp only [Option.some.injEq, Prod.mk.injEq] at h
    have hj : j = 0 := by omega
    subst hj
    refine ⟨?_, m, rfl, by rw [eqb_eq hb]; exact he.1⟩
    simp [repEs]
    exact ⟨hku, hvu, he.2.2⟩
  · rw [if_neg hb, if_neg hb]
    obtain ⟨h1, h2⟩ := kfind_set x y ku vu hku hvu xs es (i + 1) he.2.2
    refine ⟨fun h b => ?_, fun j u h => ?_⟩
    · simp only [List.cons_append, repEs]
      exact ⟨he.1, he.2.1, h1 h b⟩
    · rcases kfind_get (M := M) x xs es (i + 1) he.2.2 with hn | ⟨j', y', u', g1, _⟩
      · rw [hn.1] at h; cases h
      · rw [g1] at h
        simp only [Option.some.injEq, Prod.mk.injEq] at h
        have hj : j = j' + 1 := by omega
        subst hj
        obtain ⟨q1, e', q2, q3⟩ := h2 j' u' g1
        refine ⟨?_, e', by simpa using q2, q3⟩
        simp only [List.modify_succ_cons, repEs]
        exact ⟨he.1, he.2.1, q1⟩
 | [], _ :: _, _, he => by simp [repEs] at he
 | _ :: _, [], _, he => by simp [repEs] at he
theorem kfind_del {k v : Kind} (x : k.Ty) : ∀ (xs : List (k.Ty × v.Ty)) (es : List MapEntry) (i : Nat), repEs M k v xs es →
  (kfind x xs es i = none → repEs M k v (mdel xs x) es) ∧ (∀ j u, kfind x xs es i = some (i + j, u) → repEs M k v (mdel xs x) (es.eraseIdx j))
 | [], [], i, _ => ⟨fun _ => trivial, fun j u h => by simp [kfind] at h⟩
 | e :: xs, m :: es, i, he => by
  simp only [repEs] at he
  simp only [kfind, mdel]
  by_cases hb : k.eqb x e.1 = true
  · rw [if_pos hb, if_pos hb]
    refine ⟨fun h => (by cases h), fun j u h => ?_⟩
    simp only [Option.some.injEq, Prod.mk.injEq] at h
    have hj : j = 0 := by omega
    subst hj
    simpa using he.2.2
  · rw [if_neg hb, if_neg hb]
    obtain ⟨h1, h2⟩ := kfind_del x xs es (i + 1) he.2.2
    refine ⟨fun h => ?_, fun j u h => ?_⟩
    · simp only [repEs]; exact ⟨he.1, he.2.1, h1 h⟩
    · rcases kfind_get (M := M) x xs es (i + 1) he.2.2 with hn | ⟨j', y', u', g1, _⟩
      · rw [hn.1] at h; cases h
      · rw [g1] at h
        simp only [Option.some.injEq, Prod.mk.injEq] at h
        have hj : j = j' + 1 := by omega
        subst hj
        simp only [List.eraseIdx_cons_succ, repEs]
        exact ⟨he.1, he.2.1, h2 j' u' g1⟩
 | [], _ :: _, _, he => by simp [repEs] at he
 | _ :: _, [], _, he => by simp [repEs] at he
theorem kindAv_rep {k : Kind} {x : k.Ty} {u : Value} (h : repV M k x u) : rep ρ M noG (k.av x) u := by
 obtain ⟨h1, h2, h3⟩ := h
 have cellOk : ∀ (j : Nat) (y : AV) (u : Value), (k.enc x)[j]? = some y → repE M y u → rep ρ M noG y u := by
  intro j y u hy hm
  rcases k.enc_cell x j y hy with ⟨c, rfl, _⟩ | hs
  · exact repC_up _ _ _ hm
  · cases y <;> simp [AV.isSc] at hs <;> simpa [repE, sc, rep] using hm
 unfold Kind.av
 split
 · rename_i hg
   rw [if_pos hg] at h1
   obtain ⟨us, rfl⟩ := h1
   simp only [rep]
   refine ⟨us.toList, by simp, ?_⟩
   have key : ∀ (l : List AV) (us : List Value), l.length = us.length → (∀ (j : Nat) (x : AV), l[j]? = some x → ∃ u : Value, us[j]? = some u ∧ rep ρ M noG x u) → repL ρ M noG l us := by
    intro l
    induction l with
    | nil => intro us hl _; cases us <;> simp [repL] at hl ⊢
    | cons x l ih =>
     intro us hl hx
     cases us with
     | nil => simp at hl
     | cons u us =>
      simp only [repL]
      obtain ⟨u', h1, h2⟩ := hx 0 x rfl
      simp at h1; subst h1
      exact ⟨h2, ih us (by simpa using hl) fun j z hz => by simpa using hx (j + 1) z (by simpa using hz)⟩
   refine key _ _ (by rw [k.enc_length]; exact h2.symm) fun j y hy => ?_
   obtain ⟨u, hu, hm⟩ := h3 j y hy
   exact ⟨u, hu, cellOk j y u hy hm⟩
 · rename_i hg
   rw [if_neg hg] at h1
   have hc : u.cells = #[u] := by cases u <;> first | rfl | exact absurd rfl (h1 _)
   have hl : k.esz = 1 := by rw [← h2, hc]; rfl
   have hl' := k.enc_length x
   rw [hl] at hl'
   match hx : k.enc x, hl' with
   | [y], _ =>
    obtain ⟨u', hu, hm⟩ := h3 0 y (by rw [hx]; rfl)
    rw [hc] at hu
    simp at hu
    subst hu
    exact cellOk 0 y _ (by rw [hx]; rfl) hm
theorem decV_rep {k : Kind} {x : AV} {v : Value} {y : k.Ty} (hd : k.decV x = some y) (hv : rep ρ M noG x v) : repV M k y v := by
 unfold Kind.decV at hd
 split at hd
 · rename_i hg
   obtain ⟨h1, h2⟩ := dec_cells hd hv
   refine ⟨?_, h1⟩
   split
   · rename_i ha
     rw [ha] at hg
     cases x <;> simp [aggAV] at hg
     simp only [rep] at hv
     obtain ⟨vs, rfl, _⟩ := hv
     exact ⟨_, rfl⟩
   · rename_i ha
     have hone := likeL_one (k.dec_like hd)
     rintro us rfl
     have ha : k.isAgg = false := by simpa using ha
     rw [ha] at hg
     have hc : x.cells = [x] := by cases x <;> first | rfl | simp [aggAV] at hg
     rw [hc] at hone
     simp only [List.all_cons, List.all_nil, Bool.and_true] at hone
     have := (one_cells hone hv).1
     simp [Value.oneCell'] at this
 · cases hd
theorem zeroV (M : Mem) {e : TypeId} {k : Kind} (hz : zeroOk P e k = true) (w : World) : ∃ z, (zeroValue e).run P w = .ok z w ∧ repV M k default z := by
 obtain ⟨i, z, hi, hzz, hzs, hzx, h⟩ := zero_of (P := P) M hz
 exact ⟨z, run_zeroValue hi hzz w, h⟩

theorem SimH.setMap (H : SimH B w0 M0 h w ρ M) {id : Nat} {m : MapC} (ho : hget h id = .map m) {r : Nat} (hr : ρ id = some (.blk r)) (m' : MapC) (es : Array MapEntry) (cl : Nat) (he : repEs M m'.k m'.v m'.es es.toList) (hs : MapKept.Stamped es cl) :
  SimH B w0 M0 (hset h id (.map m')) { w with heap := w.heap.setIfInBounds r (.map es cl) } ρ M := by
 have hobj := H.obj id
 rw [ho] at hobj
 obtain ⟨r', ents, clock, h1, h2, h3, h4⟩ := hobj
 rw [hr] at h1
 injection h1 with h1
 injection h1 with h1
 subst h1
 have hrl := (Array.getElem?_eq_some_iff.1 h3).1
 have hne : ∀ k, k ≠ r → (w.heap.setIfInBounds r (.map es cl))[k]? = w.heap[k]? := fun k hk => Array.getElem?_setIfInBounds_ne (Ne.symm hk)
 have hM : ∀ off, M r off = none := by
  intro off
  cases hm : M r off with
  | none => rfl
  | some v =>
   have := H.mem _ _ _ hm
   unfold World.cell? at this
   simp [h3] at this
 refine H.update id _ (fun _ _ => rfl) (Loc.le_refl _) (Mem.le_refl _) ⟨r, es, cl, hr, h2, by simp [hrl], he, hs⟩ ?_ (fun r' i hr' => ⟨(H.own r' i hr').1, by simpa using (H.own r' i hr').2⟩) ?_ (fun _ _ _ => rfl)
  ⟨rfl, rfl, rfl, by simp, fun k hk => hne k fun e => (H.own _ _ h2).1 (e ▸ hk)⟩
 · intro i r' hni hd hr'
   refine ⟨hr', hne r' fun e => hni ?_, fun _ h => h⟩
   subst e
   rw [h2] at hr'
   injection hr' with hr'
   exact hr'.symm
 · intro b o v hv
   have := H.mem b o v hv
   have hb : b ≠ r := fun e => by subst e; rw [hM o] at hv; cases hv
   rw [← this]
   unfold World.cell?
   simp only [hne b hb]
theorem sameBits_key {k : Kind} {kt : TypeId} (hk : keyOk P kt k = true) {x : k.Ty} {u v : Value} (hu : repV M k x u) (hv : repV M k x v) : Instr.sameBits 10000 u v = true := by
 cases k <;> simp [keyOk] at hk
 case int => rw [repV_int hu, repV_int hv]; simp [Instr.sameBits]
 case bool => rw [repV_bool hu, repV_bool hv]; simp [Instr.sameBits]
 case str => rw [repV_str hu, repV_str hv]; simp [Instr.sameBits, bytes_beq]
 case key => rw [repV_key hu, repV_key hv]; simp [Instr.sameBits, bytes_beq]
 case tgt => rw [repV_tgt hu, repV_tgt hv]; simp [Instr.sameBits, bytes_beq]
theorem key_unique {k : Kind} {kt : TypeId} (hk : keyOk P kt k = true) {x : k.Ty} {u v : Value} (hu : repV M k x u) (hv : repV M k x v) : u = v := by
 cases k <;> simp [keyOk] at hk
 case int => rw [repV_int hu, repV_int hv]
 case bool => rw [repV_bool hu, repV_bool hv]
 case str => rw [repV_str hu, repV_str hv]
 case key => rw [repV_key hu, repV_key hv]
 case tgt => rw [repV_tgt hu, repV_tgt hv]
theorem key_same {k : Kind} {kt : TypeId} (hk : keyOk P kt k = true) {x y : k.Ty} {u : Value} (hu : repV M k x u) (hv : repV M k y u) : k.eqb x y = true := by
 cases k <;> simp [keyOk] at hk
 case int => have h := (repV_int hu).symm.trans (repV_int hv); injection h with _ h; subst h; simp [Kind.eqb]
 case bool => have h := (repV_bool hu).symm.trans (repV_bool hv); injection h with h; subst h; simp [Kind.eqb]
 case str => have h := (repV_str hu).symm.trans (repV_str hv); injection h with h; subst h; simp [Kind.eqb]
 case key =>
  have h := (repV_key hu).symm.trans (repV_key hv)
  simp only [Value.agg.injEq, Array.mk.injEq, List.cons.injEq, Value.int.injEq, Value.string.injEq, and_true, true_and] at h
  simp [Kind.eqb, h.1, h.2]
 case tgt =>
  have h := (repV_tgt hu).symm.trans (repV_tgt hv)
  simp only [Value.agg.injEq, Array.mk.injEq, List.cons.injEq, Value.bool.injEq, Value.string.injEq, and_true] at h
  simp [Kind.eqb, h.1, h.2]
theorem kfind_new {k v : Kind} {kt : TypeId} (hk : keyOk P kt k = true) {x : k.Ty} {u : Value} (hu : repV M k x u) : ∀ (xs : List (k.Ty × v.Ty)) (es : List MapEntry) (i : Nat), repEs M k v xs es → kfind x xs es i = none → ∀ e ∈ es, e.key ≠ u
 | [], [], _, _, _ => fun e he => by cases he
 | y :: xs, m :: es, i, he, hn => by
  simp only [repEs] at he
  simp only [kfind] at hn
  by_cases hb : k.eqb x y.1 = true
  · rw [if_pos hb] at hn; cases hn
  · rw [if_neg hb] at hn
    intro e hm
    rcases List.mem_cons.1 hm with rfl | hm
    · intro hh
      rw [← hh] at hu
      exact hb (key_same hk hu he.1)
    · exact kfind_new hk hu xs es (i + 1) he.2.2 hn e hm
 | [], _ :: _, _, he, _ => by simp [repEs] at he
 | _ :: _, [], _, he, _ => by simp [repEs] at he
theorem map_stamped (H : SimH B w0 M0 h w ρ M) {id : Nat} {m : MapC} (ho : hget h id = .map m) {r : Nat} (hr : ρ id = some (.blk r)) {es : Array MapEntry} {cl : Nat} (hb : w.heap[r]? = some (.map es cl)) : MapKept.Stamped es cl := by
 have hobj := H.obj id
 rw [ho] at hobj
 obtain ⟨r', ents, clock, h1, h2, h3, h4, h5⟩ := hobj
 rw [hr] at h1
 injection h1 with h1
 injection h1 with h1
 subst h1
 rw [hb] at h3
 injection h3 with h3
 injection h3 with h3 h6
 subst h3; subst h6
 exact h5
theorem map_block (H : SimH B w0 M0 h w ρ M) {id : Nat} {m : MapC} (ho : hget h id = .map m) {v : Value} (hv : rep ρ M noG (.map id) v) :
  ∃ r es cl, v = .map (some r) ∧ ρ id = some (.blk r) ∧ w.heap[r]? = some (.map es cl) ∧ repEs M m.k m.v m.es es.toList := by
 have hobj := H.obj id
 rw [ho] at hobj
 obtain ⟨r', ents, clock, h1, h2, h3, h4⟩ := hobj
 simp only [rep] at hv
 obtain ⟨r, hr, rfl⟩ := hv
 rw [hr] at h1
 injection h1 with h1
 injection h1 with h1
 subst h1
 exact ⟨r, ents, clock, rfl, hr, h3, h4.1⟩
theorem run_getMap {w : World} {r : Nat} {es : Array MapEntry} {cl : Nat} (h : w.heap[r]? = some (.map es cl)) : (getObj r).run P w = .ok (.map es cl) w := by
 simp [getObj, Sem.run, h]
theorem run_setMap {w : World} {r : Nat} {es : Array MapEntry} {cl : Nat} (h : w.heap[r]? = some (.map es cl)) (o : Obj) : (setObj r o).run P w = .ok () { w with heap := w.heap.setIfInBounds r o } := by
 simp only [setObj, Sem.run, h]
theorem lookup_run (H : SimH B w0 M0 h w ρ M) {id : Nat} {m : MapC} (ho : hget h id = .map m) {ty kt et : TypeId} (hu : P.underlying ty = some (.map kt et)) (hk : keyOk P kt m.k = true) (hz : zeroOk P et m.v = true)
  {mv kv : Value} (hm : rep ρ M noG (.map id) mv) {x : m.k.Ty} (hx : repV M m.k x kv) (ok : Bool) :
  ∃ u, (Instr.lookup ty mv kv ok).run P w = .ok u w ∧ rep ρ M noG (if ok then .tup [m.v.av ((mget m.es x).getD default), .bool (mget m.es x).isSome] else m.v.av ((mget m.es x).getD default)) u := by
 obtain ⟨r, es, cl, rfl, hr, hb, he⟩ := map_block H ho hm
 obtain ⟨z, hzr, hzv⟩ := zeroV (P := P) M hz w
 have hf := findKey_run (P := P) hk hx he w
 have hck := checkKey_run (P := P) hk hx es.isEmpty w
 rcases kfind_get (M := M) x m.es es.toList 0 he with ⟨h1, h2⟩ | ⟨j, y, u, h1, h2, h3, _⟩
 · rw [h1] at hf
   rw [h2]
   refine ⟨if ok then .tuple #[z, .bool false] else z, ?_, ?_⟩
   · simp only [Instr.lookup, Sem.run_bind, run_underlying hu, Result.andThen_ok, run_getMap hb, Sem.run_pure, hck, hf, hzr]
   · cases ok
     · exact kindAv_rep hzv
     · simp only [if_true, rep]; exact ⟨_, rfl, by simp only [repL, rep]; exact ⟨kindAv_rep hzv, rfl, trivial⟩⟩
 · rw [h1] at hf
   rw [h2]
   refine ⟨if ok then .tuple #[u, .bool true] else u, ?_, ?_⟩
   · simp only [Instr.lookup, Sem.run_bind, run_underlying hu, Result.andThen_ok, run_getMap hb, Sem.run_pure, hck, hf]
   · cases ok
     · exact kindAv_rep h3
     · simp only [if_true, rep]; exact ⟨_, rfl, by simp only [repL, rep]; exact ⟨kindAv_rep h3, rfl, trivial⟩⟩
theorem mapUpdate_run (H : SimH B w0 M0 h w ρ M) {id : Nat} {m : MapC} (ho : hget h id = .map m) {ty kt et : TypeId} (hu : P.underlying ty = some (.map kt et)) (hk : keyOk P kt m.k = true)
  {mv kv vv : Value} (hm : rep ρ M noG (.map id) mv) {x : m.k.Ty} (hx : repV M m.k x kv) {y : m.v.Ty} (hy : repV M m.v y vv) :
  ∃ w', (Instr.mapUpdate ty mv kv vv).run P w = .ok () w' ∧ SimH B w0 M0 (hset h id (.map ⟨m.k, m.v, mset m.es x y⟩)) w' ρ M := by
 obtain ⟨r, es, cl, rfl, hr, hb, he⟩ := map_block H ho hm
 have hst := map_stamped H ho hr hb
 have hf := findKey_run (P := P) hk hx he w
 have hck := checkKey_run (P := P) hk hx false w
 obtain ⟨s1, s2⟩ := kfind_set (M := M) x y kv vv hx hy m.es es.toList 0 he
 rcases kfind_get (M := M) x m.es es.toList 0 he with ⟨h1, h2⟩ | ⟨j, y', u, h1, h2, h3, hlt⟩
 · rw [h1] at hf
   refine ⟨_, ?_, H.setMap ho hr ⟨m.k, m.v, mset m.es x y⟩ (es.push { key := kv, val := vv, born := cl }) (cl + 1) (by simpa using s1 h1 cl) (MapKept.stamped_push hst (kfind_new hk hx _ _ _ he h1))⟩
   simp only [Instr.mapUpdate, Sem.run_bind, run_underlying hu, Result.andThen_ok, run_getMap hb, hck, hf, run_setMap hb]
 · rw [h1] at hf
   obtain ⟨q1, e, q2, q3⟩ := s2 j u h1
   refine ⟨_, ?_, H.setMap ho hr ⟨m.k, m.v, mset m.es x y⟩ (es.modify j fun e => { e with key := kv, val := vv }) cl (by rw [Array.toList_modify]; exact q1) (MapKept.stamped_modify hst j _ (fun _ _ => rfl) (fun e' _ he' => by
    have : e' = e := by have q2' : es[j]? = some e := by simpa using q2
                        rw [he'] at q2'; injection q2'
    subst this
    exact key_unique hk hx q3))⟩
   have hge : es[j]? = some e := by simpa using q2
   have hsb := sameBits_key (P := P) hk q3 hx
   simp only [Instr.mapUpdate, Sem.run_bind, run_underlying hu, Result.andThen_ok, run_getMap hb, hck, hf, Nat.zero_add, hge, Option.map_some, Option.getD_some, Instr.keyThatStays, hsb, if_true, Sem.run_pure, run_setMap hb]
theorem delete_run (H : SimH B w0 M0 h w ρ M) {id : Nat} {m : MapC} (ho : hget h id = .map m) {ty kt et : TypeId} (hu : P.underlying ty = some (.map kt et)) (hk : keyOk P kt m.k = true)
  {mv kv : Value} (hm : rep ρ M noG (.map id) mv) {x : m.k.Ty} (hx : repV M m.k x kv) (ats : Array TypeId) (hat : ats[0]? = some ty) (rt : TypeId) (args : Array Value) (ha0 : args[0]? = some mv) (ha1 : args[1]? = some kv) :
  ∃ w', (Builtin.delete_ ats rt args).run P w = .ok (.tuple #[]) w' ∧ SimH B w0 M0 (hset h id (.map ⟨m.k, m.v, mdel m.es x⟩)) w' ρ M := by
 obtain ⟨r, es, cl, rfl, hr, hb, he⟩ := map_block H ho hm
 have hf := findKey_run (P := P) hk hx he w
 have hck := checkKey_run (P := P) hk hx es.isEmpty w
 have hst := map_stamped H ho hr hb
 obtain ⟨s1, s2⟩ := kfind_del (M := M) x m.es es.toList 0 he
 rcases kfind_get (M := M) x m.es es.toList 0 he with ⟨h1, h2⟩ | ⟨j, y', u, h1, h2, h3, hlt⟩
 · rw [h1] at hf
   refine ⟨_, ?_, H.setMap ho hr ⟨m.k, m.v, mdel m.es x⟩ es cl (s1 h1) hst⟩
   simp [Builtin.delete_, hat, ha0, ha1, run_underlying hu, run_getMap hb, hck, hf, run_setMap hb]
 · rw [h1] at hf
   refine ⟨_, ?_, H.setMap ho hr ⟨m.k, m.v, mdel m.es x⟩ (es.eraseIdxIfInBounds j) cl (by
    have hlt' : j < es.size := by simpa using hlt
    rw [Array.eraseIdxIfInBounds, dif_pos hlt', Array.toList_eraseIdx]
    exact s2 j u h1) (MapKept.stamped_erase hst j)⟩
   simp [Builtin.delete_, hat, ha0, ha1, run_underlying hu, run_getMap hb, hck, hf, run_setMap hb]
end
end Go.Eng
end
section
namespace Go.Eng
open Go.RowKit (Below)
variable {P : Program} {B : Nat → Prop} {w0 w : World} {M0 M : Mem} {h : List AObj} {ρ : Loc}

theorem SimH.allocIter (H : SimH B w0 M0 h w ρ M) (id : Nat) (hid : ρ id = none) (s : ByteArray) : SimH B w0 M0 (hset h id (.iter s 0)) (w.iter s 0) (ρ.put id (.blk w.heap.size) w.heap.size) M := by
 refine H.allocO id hid _ _ _ ?_
 exact ⟨w.heap.size, by simp [Loc.put], by simp [Loc.put], (by show (w.heap.push _)[w.heap.size]? = _; simp), fun off => Mem.none_new H (Nat.le_refl _) off⟩
theorem SimH.setIter (H : SimH B w0 M0 h w ρ M) {id : Nat} {s : ByteArray} {pos : Nat} (ho : hget h id = .iter s pos) {r : Nat} (hr : ρ id = some (.blk r)) (p : Nat) :
  SimH B w0 M0 (hset h id (.iter s p)) { w with heap := w.heap.setIfInBounds r (.stringIter s p) } ρ M := by
 have hobj := H.obj id
 rw [ho] at hobj
 obtain ⟨r', h1, h2, h3, h4⟩ := hobj
 rw [hr] at h1
 injection h1 with h1
 injection h1 with h1
 subst h1
 have hrl := (Array.getElem?_eq_some_iff.1 h3).1
 have hne : ∀ k, k ≠ r → (w.heap.setIfInBounds r (.stringIter s p))[k]? = w.heap[k]? := fun k hk => Array.getElem?_setIfInBounds_ne (Ne.symm hk)
 refine H.update id _ (fun _ _ => rfl) (Loc.le_refl _) (Mem.le_refl _) ⟨r, hr, h2, by simp [hrl], h4⟩ ?_ (fun r' i hr' => ⟨(H.own r' i hr').1, by simpa using (H.own r' i hr').2⟩) ?_ (fun _ _ _ => rfl)
  ⟨rfl, rfl, rfl, by simp, fun k hk => hne k fun e => (H.own _ _ h2).1 (e ▸ hk)⟩
 · intro i r' hni hd hr'
   refine ⟨hr', hne r' fun e => hni ?_, fun _ h => h⟩
   subst e
   rw [h2] at hr'
   injection hr' with hr'
   exact hr'.symm
 · intro b o v hv
   have := H.mem b o v hv
   have hb : b ≠ r := fun e => by subst e; rw [h4 o] at hv; cases hv
   rw [← this]
   unfold World.cell?
   simp only [hne b hb]
theorem next_run (H : SimH B w0 M0 h w ρ M) {id : Nat} {s : ByteArray} {pos : Nat} (ho : hget h id = .iter s pos) {v : Value} (hv : rep ρ M noG (.ptr id 0) v) (ty : TypeId) :
  ∃ u w', (Instr.next v true ty).run P w = .ok u w' ∧ rep ρ M noG (.nxt (decide (pos < s.size)) pos (Utf8.decode s pos).1) u ∧ SimH B w0 M0 (hset h id (.iter s (cond (decide (pos < s.size)) (pos + (Utf8.decode s pos).2) pos))) w' ρ M := by
 simp only [rep] at hv
 obtain ⟨r, hr, rfl⟩ := hv
 have hobj := H.obj id
 rw [ho] at hobj
 obtain ⟨r', h1, h2, h3, h4⟩ := hobj
 rw [hr] at h1
 injection h1 with h1
 injection h1 with h1
 subst h1
 have hrl := (Array.getElem?_eq_some_iff.1 h3).1
 by_cases hp : pos < s.size
 · refine ⟨.tuple #[.bool true, .int .i64 pos, .int .i32 (Utf8.decode s pos).1], _, ?_, ?_, SimH.setIter H ho hr _⟩
   · simp only [Instr.next, getObj, setObj, Sem.run_bind, Sem.run, h3, Result.andThen, hp, if_true, decide_true, cond_true]
     simp [goInt, Sem.run, hrl]
   · simp [rep, hp]
 · refine ⟨.tuple #[.bool false], _, ?_, ?_, SimH.setIter H ho hr _⟩
   · simp only [decide_false, hp, cond_false]
     have he : ({ w with heap := w.heap.setIfInBounds r (.stringIter s pos) } : World) = w := by
      have : w.heap.setIfInBounds r (.stringIter s pos) = w.heap := by
       apply Array.ext_getElem?
       intro i
       by_cases hi : i = r
       · subst hi; rw [h3]; simp [hrl]
       · exact Array.getElem?_setIfInBounds_ne (Ne.symm hi)
      rw [this]
     rw [he]
     simp [Instr.next, getObj, Sem.run, h3, hp]
   · simp [rep, hp]
end Go.Eng
end
section
namespace Go.Eng
open Go.RowKit (Below)

section
variable {P : Program} {B : Nat → Prop} {w0 w : World} {M0 M : Mem} {h hr : List AObj} {ρ : Loc} {t : List AV} {a : Act}

theorem repV_dv {x : XDv} {v : Value} (h : repV M .dv x v) : v = .agg #[.int .i64 x.size, .string x.zone, .int .u64 x.tag, .map x.spot] := by
 obtain ⟨h1, h2, h3⟩ := h
 obtain ⟨u0, hu0, r0⟩ := h3 0 (.int .i64 x.size) rfl
 obtain ⟨u1, hu1, r1⟩ := h3 1 (.str x.zone) rfl
 obtain ⟨u2, hu2, r2⟩ := h3 2 (.int .u64 x.tag) rfl
 obtain ⟨u3, hu3, r3⟩ := h3 3 (.href x.spot) rfl
 simp only [Kind.isAgg, if_true] at h1
 obtain ⟨us, rfl⟩ := h1
 simp only [repE, sc] at r0 r1 r2 r3
 subst r0; subst r1; subst r2; subst r3
 have h2 : us.toList.length = 4 := h2
 congr 1
 apply Array.ext'
 have hu0 : us.toList[0]? = some _ := hu0
 have hu1 : us.toList[1]? = some _ := hu1
 have hu2 : us.toList[2]? = some _ := hu2
 have hu3 : us.toList[3]? = some _ := hu3
 revert h2 hu0 hu1 hu2 hu3
 generalize us.toList = l
 intro h2 hu0 hu1 hu2 hu3
 match l, h2 with
 | [a, b, c, d], _ => simp at hu0 hu1 hu2 hu3; simp [hu0, hu1, hu2, hu3]
theorem dv_repV (x : XDv) : repV M .dv x (.agg #[.int .i64 x.size, .string x.zone, .int .u64 x.tag, .map x.spot]) := by
 refine ⟨by simp only [Kind.isAgg, if_true]; exact ⟨_, rfl⟩, rfl, ?_⟩
 intro j y hy
 match j, hy with
 | 0, hy => simp [Kind.enc, encDv] at hy; subst hy; exact ⟨_, rfl, rfl⟩
 | 1, hy => simp [Kind.enc, encDv] at hy; subst hy; exact ⟨_, rfl, rfl⟩
 | 2, hy => simp [Kind.enc, encDv] at hy; subst hy; exact ⟨_, rfl, rfl⟩
 | 3, hy => simp [Kind.enc, encDv] at hy; subst hy; exact ⟨_, rfl, rfl⟩
 | n + 4, hy => simp [Kind.enc, encDv] at hy
theorem str_repV (s : ByteArray) : repV M .str s (.string s) := by
 refine ⟨by simp [Kind.isAgg], rfl, ?_⟩
 intro j y hy
 match j, hy with
 | 0, hy => simp [Kind.enc] at hy; subst hy; exact ⟨_, rfl, rfl⟩
 | n + 1, hy => simp [Kind.enc] at hy
theorem bool_repV (s : Bool) : repV M .bool s (.bool s) := by
 refine ⟨by simp [Kind.isAgg], rfl, ?_⟩
 intro j y hy
 match j, hy with
 | 0, hy => simp [Kind.enc] at hy; subst hy; exact ⟨_, rfl, rfl⟩
 | n + 1, hy => simp [Kind.enc] at hy

theorem lookup_core {k v : Kind} {xs : List (k.Ty × v.Ty)} {r : Nat} {es : Array MapEntry} {cl : Nat} (hb : w.heap[r]? = some (.map es cl)) (he : repEs M k v xs es.toList) {ty kt et : TypeId} (hu : P.underlying ty = some (.map kt et))
  (hk : keyOk P kt k = true) (hz : zeroOk P et v = true) {x : k.Ty} {kv : Value} (hx : repV M k x kv) (ok : Bool) :
  ∃ z, (Instr.lookup ty (.map (some r)) kv ok).run P w = .ok (if ok then .tuple #[z, .bool (mget xs x).isSome] else z) w ∧ repV M v ((mget xs x).getD default) z := by
 obtain ⟨z, hzr, hzv⟩ := zeroV (P := P) M hz w
 have hf := findKey_run (P := P) hk hx he w
 have hck := checkKey_run (P := P) hk hx es.isEmpty w
 rcases kfind_get (M := M) x xs es.toList 0 he with ⟨h1, h2⟩ | ⟨j, y, u, h1, h2, h3, _⟩
 · rw [h1] at hf
   rw [h2]
   refine ⟨z, ?_, hzv⟩
   simp only [Instr.lookup, Sem.run_bind, run_underlying hu, Result.andThen_ok, run_getMap hb, Sem.run_pure, hck, hf, hzr]
   cases ok <;> rfl
 · rw [h1] at hf
   rw [h2]
   refine ⟨u, ?_, h3⟩
   simp only [Instr.lookup, Sem.run_bind, run_underlying hu, Result.andThen_ok, run_getMap hb, Sem.run_pure, hck, hf]
   cases ok <;> rfl
theorem lookup_none {k v : Kind} {ty kt et : TypeId} (hu : P.underlying ty = some (.map kt et)) (hk : keyOk P kt k = true) (hz : zeroOk P et v = true) {x : k.Ty} {kv : Value} (hx : repV M k x kv) (ok : Bool) (w : World) :
  ∃ z, (Instr.lookup ty (.map none) kv ok).run P w = .ok (if ok then .tuple #[z, .bool false] else z) w ∧ repV M v default z := by
 obtain ⟨z, hzr, hzv⟩ := zeroV (P := P) M hz w
 have hf := findKey_run (P := P) (v := v) (xs := []) (es := []) hk hx trivial w
 have hck := checkKey_run (P := P) hk hx true w
 refine ⟨z, ?_, hzv⟩
 have hf' : (Instr.findKey kt kv (#[] : Array MapEntry).toList).run P w = .ok none w := hf
 simp only [Instr.lookup, Sem.run_bind, run_underlying hu, Result.andThen_ok, Sem.run_pure, Array.isEmpty_empty, hck, hf', hzr]

theorem update_core {k v : Kind} {xs : List (k.Ty × v.Ty)} {r : Nat} {es : Array MapEntry} {cl : Nat} (hb : w.heap[r]? = some (.map es cl)) (he : repEs M k v xs es.toList) (hst : MapKept.Stamped es cl) {ty kt et : TypeId} (hu : P.underlying ty = some (.map kt et))
  (hk : keyOk P kt k = true) {x : k.Ty} {kv vv : Value} (hx : repV M k x kv) {y : v.Ty} (hy : repV M v y vv) :
  ∃ es' cl', (Instr.mapUpdate ty (.map (some r)) kv vv).run P w = .ok () { w with heap := w.heap.setIfInBounds r (.map es' cl') } ∧ repEs M k v (mset xs x y) es'.toList ∧ MapKept.Stamped es' cl' := by
 have hf := findKey_run (P := P) hk hx he w
 have hck := checkKey_run (P := P) hk hx false w
 obtain ⟨s1, s2⟩ := kfind_set (M := M) x y kv vv hx hy xs es.toList 0 he
 rcases kfind_get (M := M) x xs es.toList 0 he with ⟨h1, h2⟩ | ⟨j, y', u, h1, h2, h3, hlt⟩
 · rw [h1] at hf
   refine ⟨es.push { key := kv, val := vv, born := cl }, cl + 1, ?_, by simpa using s1 h1 cl, MapKept.stamped_push hst (kfind_new hk hx _ _ _ he h1)⟩
   simp only [Instr.mapUpdate, Sem.run_bind, run_underlying hu, Result.andThen_ok, run_getMap hb, hck, hf, run_setMap hb]
 · rw [h1] at hf
   obtain ⟨q1, e, q2, q3⟩ := s2 j u h1
   refine ⟨es.modify j fun e => { e with key := kv, val := vv }, cl, ?_, by rw [Array.toList_modify]; exact q1, MapKept.stamped_modify hst j _ (fun _ _ => rfl) (fun e' _ he' => by
    have : e' = e := by have q2' : es[j]? = some e := by simpa using q2
                        rw [he'] at q2'; injection q2'
    subst this
    exact key_unique hk hx q3)⟩
   have hge : es[j]? = some e := by simpa using q2
   have hsb := sameBits_key (P := P) hk q3 hx
   simp only [Instr.mapUpdate, Sem.run_bind, run_underlying hu, Result.andThen_ok, run_getMap hb, hck, hf, Nat.zero_add, hge, Option.map_some, Option.getD_some, Instr.keyThatStays, hsb, if_true, Sem.run_pure, run_setMap hb]
theorem delete_core {k v : Kind} {xs : List (k.Ty × v.Ty)} {r : Nat} {es : Array MapEntry} {cl : Nat} (hb : w.heap[r]? = some (.map es cl)) (he : repEs M k v xs es.toList) (hst : MapKept.Stamped es cl) {ty kt et : TypeId} (hu : P.underlying ty = some (.map kt et))
  (hk : keyOk P kt k = true) {x : k.Ty} {kv : Value} (hx : repV M k x kv) (ats : Array TypeId) (hat : ats[0]? = some ty) (rt : TypeId) (args : Array Value) (ha0 : args[0]? = some (.map (some r))) (ha1 : args[1]? = some kv) :
  ∃ es' cl', (Builtin.delete_ ats rt args).run P w = .ok (.tuple #[]) { w with heap := w.heap.setIfInBounds r (.map es' cl') } ∧ repEs M k v (mdel xs x) es'.toList ∧ MapKept.Stamped es' cl' := by
 have hf := findKey_run (P := P) hk hx he w
 have hck := checkKey_run (P := P) hk hx es.isEmpty w
 obtain ⟨s1, s2⟩ := kfind_del (M := M) x xs es.toList 0 he
 rcases kfind_get (M := M) x xs es.toList 0 he with ⟨h1, h2⟩ | ⟨j, y', u, h1, h2, h3, hlt⟩
 · rw [h1] at hf
   refine ⟨es, cl, ?_, s1 h1, hst⟩
   simp [Builtin.delete_, hat, ha0, ha1, run_underlying hu, run_getMap hb, hck, hf, run_setMap hb]
 · rw [h1] at hf
   refine ⟨es.eraseIdxIfInBounds j, cl, ?_, by
    have hlt' : j < es.size := by simpa using hlt
    rw [Array.eraseIdxIfInBounds, dif_pos hlt', Array.toList_eraseIdx]
    exact s2 j u h1, MapKept.stamped_erase hst j⟩
   simp [Builtin.delete_, hat, ha0, ha1, run_underlying hu, run_getMap hb, hck, hf, run_setMap hb]
theorem delete_none {k : Kind} {ty kt et : TypeId} (hu : P.underlying ty = some (.map kt et)) (hk : keyOk P kt k = true) {x : k.Ty} {kv : Value} (hx : repV M k x kv) (ats : Array TypeId) (hat : ats[0]? = some ty) (rt : TypeId) (args : Array Value)
  (ha0 : args[0]? = some (.map none)) (ha1 : args[1]? = some kv) (w : World) : (Builtin.delete_ ats rt args).run P w = .ok (.tuple #[]) w := by
 have hck := checkKey_run (P := P) hk hx true w
 simp [Builtin.delete_, hat, ha0, ha1, run_underlying hu, hck]

theorem SimH.setBlk (H : SimH B w0 M0 h w ρ M) {id b : Nat} (hob : ρ.own b = some id) {e0 : Array MapEntry} {c0 : Nat} (hmap : w.heap[b]? = some (.map e0 c0)) (es : Array MapEntry) (cl : Nat) (new : AObj)
  (hnew : okObj ρ M { w with heap := w.heap.setIfInBounds b (.map es cl) } id new) : SimH B w0 M0 (hset h id new) { w with heap := w.heap.setIfInBounds b (.map es cl) } ρ M := by
 have hne : ∀ k, k ≠ b → (w.heap.setIfInBounds b (.map es cl))[k]? = w.heap[k]? := fun k hk => Array.getElem?_setIfInBounds_ne (Ne.symm hk)
 have hM : ∀ off, M b off = none := by
  intro off
  cases hm : M b off with
  | none => rfl
  | some v =>
   have := H.mem _ _ _ hm
   unfold World.cell? at this
   simp [hmap] at this
 refine H.update id _ (fun _ _ => rfl) (Loc.le_refl _) (Mem.le_refl _) hnew ?_ (fun r' i hr' => ⟨(H.own r' i hr').1, by simpa using (H.own r' i hr').2⟩) ?_ (fun _ _ _ => rfl)
  ⟨rfl, rfl, rfl, by simp, fun k hk => hne k fun e => (H.own _ _ hob).1 (e ▸ hk)⟩
 · intro i r' hni hd hr'
   refine ⟨hr', hne r' fun e => hni ?_, fun _ h => h⟩
   subst e
   rw [hob] at hr'
   injection hr' with hr'
   exact hr'.symm
 · intro b' o v hv
   have := H.mem b' o v hv
   have hb : b' ≠ b := fun e => by subst e; rw [hM o] at hv; cases hv
   rw [← this]
   unfold World.cell?
   simp only [hne b' hb]

theorem vols_block (H : SimH B w0 M0 h w ρ M) {id : Nat} {es : List (ByteArray × XVn)} {al : Option (Nat × ByteArray)} (ho : hget h id = .vols es al) :
  ∃ r ents clock xs, ρ id = some (.blk r) ∧ ρ.own r = some id ∧ w.heap[r]? = some (.map ents clock) ∧ repEs M .str .dv xs ents.toList ∧ MapKept.Stamped ents clock ∧ inVs ρ.own M w id r es xs ∧ (xs.map fun x => x.2.spot).Nodup ∧ alOk ρ.pl xs al := by
 have := H.obj id
 rw [ho] at this
 exact this
theorem inVs_get {own : Nat → Option Nat} {id r : Nat} (k : ByteArray) : ∀ {es : List (ByteArray × XVn)} {xs : List (ByteArray × XDv)}, inVs own M w id r es xs →
  (vget es k = none ∧ xget xs k = none) ∨ ∃ e x q ents clock, vget es k = some e ∧ xget xs k = some x ∧ e.size = x.size ∧ e.zone = x.zone ∧ e.tag = x.tag ∧ x.spot = some q ∧ q ≠ r ∧ own q = some id ∧ w.heap[q]? = some (.map ents clock) ∧ repEs M .str .bool e.nodes ents.toList ∧ MapKept.Stamped ents clock
 | [], [], _ => .inl ⟨rfl, rfl⟩
 | e :: es, x :: xs, h => by
  obtain ⟨⟨h1, h2, h3, h4, q, ents, clock, h5⟩, h6⟩ := h
  show ((if Kind.eqb .str k e.1 = true then some e.2 else vget es k) = none ∧ (if Kind.eqb .str k x.1 = true then some x.2 else xget xs k) = none) ∨ _
  by_cases hb : Kind.eqb .str k e.1 = true
  · refine .inr ⟨e.2, x.2, q, ents, clock, ?_, ?_, h2, h3, h4, h5⟩
    · show (if Kind.eqb .str k e.1 = true then some e.2 else vget es k) = _
      rw [if_pos hb]
    · show (if Kind.eqb .str k x.1 = true then some x.2 else xget xs k) = _
      rw [if_pos (h1 ▸ hb)]
  · rw [if_neg hb, if_neg (h1 ▸ hb)]
    rcases inVs_get k h6 with g | ⟨e', x', q', en', c', g1, g2, g3⟩
    · exact .inl g
    · refine .inr ⟨e', x', q', en', c', ?_, ?_, g3⟩
      · show (if Kind.eqb .str k e.1 = true then some e.2 else vget es k) = _
        rw [if_neg hb]; exact g1
      · show (if Kind.eqb .str k x.1 = true then some x.2 else xget xs k) = _
        rw [if_neg (h1 ▸ hb)]; exact g2
 | [], _ :: _, h => h.elim
 | _ :: _, [], h => h.elim
theorem xget_mem {k : ByteArray} {x : XDv} : ∀ {xs : List (ByteArray × XDv)}, xget xs k = some x → x.spot ∈ xs.map fun x => x.2.spot
 | [], h => by cases h
 | y :: xs, h => by
  have h : (if Kind.eqb .str k y.1 = true then some y.2 else xget xs k) = some x := h
  by_cases hb : Kind.eqb .str k y.1 = true
  · rw [if_pos hb] at h; injection h with h; subst h; simp
  · rw [if_neg hb] at h
    exact List.mem_cons_of_mem _ (xget_mem h)
theorem inVs_own {own : Nat → Option Nat} {id r : Nat} : ∀ {es : List (ByteArray × XVn)} {xs : List (ByteArray × XDv)}, inVs own M w id r es xs → ∀ s ∈ xs.map fun x => x.2.spot, ∃ q, s = some q ∧ q ≠ r ∧ own q = some id
 | [], [], _ => fun s h => by cases h
 | e :: es, x :: xs, h => fun s hs => by
  obtain ⟨⟨h1, h2, h3, h4, q, ents, clock, h5, h6, h7, _⟩, h8⟩ := h
  rcases List.mem_cons.1 hs with rfl | hs
  · exact ⟨q, h5, h6, h7⟩
  · exact inVs_own h8 s hs
 | [], _ :: _, h => h.elim
 | _ :: _, [], h => h.elim
theorem inVs.world {own own' : Nat → Option Nat} {id r : Nat} {w' : World} : ∀ {es : List (ByteArray × XVn)} {xs : List (ByteArray × XDv)}, inVs own M w id r es xs → (∀ s ∈ xs.map fun x => x.2.spot, ∀ q, s = some q → own q = some id → own' q = some id ∧ w'.heap[q]? = w.heap[q]?) → inVs own' M w' id r es xs
 | [], [], _, _ => trivial
 | e :: es, x :: xs, h, hw => by
  obtain ⟨⟨h1, h2, h3, h4, q, ents, clock, h5, h6, h7, h8, h9⟩, h10⟩ := h
  have hq := hw x.2.spot (by simp) q h5 h7
  exact ⟨⟨h1, h2, h3, h4, q, ents, clock, h5, h6, hq.1, hq.2.trans h8, h9⟩, inVs.world h10 fun s hs => hw s (List.mem_cons_of_mem _ hs)⟩
 | [], _ :: _, h, _ => h.elim
 | _ :: _, [], h, _ => h.elim
theorem inVs.set {own : Nat → Option Nat} {id r : Nat} (k : ByteArray) (y : XVn) (z : XDv) (hyz : y.size = z.size ∧ y.zone = z.zone ∧ y.tag = z.tag) {q : Nat} {ents : Array MapEntry} {clock : Nat} (hq : z.spot = some q) (hr : q ≠ r) (ho : own q = some id)
  (hw : w.heap[q]? = some (.map ents clock)) (hn : repEs M .str .bool y.nodes ents.toList ∧ MapKept.Stamped ents clock) : ∀ {es : List (ByteArray × XVn)} {xs : List (ByteArray × XDv)}, inVs own M w id r es xs → inVs own M w id r (vset es k y) (mset (k := .str) (v := .dv) xs k z)
 | [], [], _ => ⟨⟨rfl, hyz.1, hyz.2.1, hyz.2.2, q, ents, clock, hq, hr, ho, hw, hn⟩, trivial⟩
 | e :: es, x :: xs, h => by
  have h1 := h.1.1
  show inVs own M w id r (if Kind.eqb .str k e.1 = true then (k, y) :: es else e :: vset es k y) (if Kind.eqb .str k x.1 = true then (k, z) :: xs else x :: mset (k := .str) (v := .dv) xs k z)
  by_cases hb : Kind.eqb .str k e.1 = true
  · rw [if_pos hb, if_pos (h1 ▸ hb)]
    exact ⟨⟨rfl, hyz.1, hyz.2.1, hyz.2.2, q, ents, clock, hq, hr, ho, hw, hn⟩, h.2⟩
  · rw [if_neg hb, if_neg (h1 ▸ hb)]
    exact ⟨h.1, inVs.set k y z hyz hq hr ho hw hn h.2⟩
 | [], _ :: _, h => h.elim
 | _ :: _, [], h => h.elim
theorem inVs.del {own : Nat → Option Nat} {id r : Nat} (k : ByteArray) : ∀ {es : List (ByteArray × XVn)} {xs : List (ByteArray × XDv)}, inVs own M w id r es xs → inVs own M w id r (vdel es k) (mdel (k := .str) (v := .dv) xs k)
 | [], [], _ => trivial
 | e :: es, x :: xs, h => by
  have h1 := h.1.1
  show inVs own M w id r (if Kind.eqb .str k e.1 = true then es else e :: vdel es k) (if Kind.eqb .str k x.1 = true then xs else x :: mdel (k := .str) (v := .dv) xs k)
  by_cases hb : Kind.eqb .str k e.1 = true
  · rw [if_pos hb, if_pos (h1 ▸ hb)]
    exact h.2
  · rw [if_neg hb, if_neg (h1 ▸ hb)]
    exact ⟨h.1, inVs.del k h.2⟩
 | [], _ :: _, h => h.elim
 | _ :: _, [], h => h.elim
theorem inVs.mod {own : Nat → Option Nat} {id r : Nat} {w' : World} (k : ByteArray) (f : List (ByteArray × Bool) → List (ByteArray × Bool)) {q : Nat} {ents' : Array MapEntry} {clock' : Nat} (hw' : w'.heap[q]? = some (.map ents' clock')) (hne : ∀ b, b ≠ q → w'.heap[b]? = w.heap[b]?) :
  ∀ {es : List (ByteArray × XVn)} {xs : List (ByteArray × XDv)}, inVs own M w id r es xs → (xs.map fun x => x.2.spot).Nodup → (∀ e x, vget es k = some e → xget xs k = some x → x.spot = some q ∧ repEs M .str .bool (f e.nodes) ents'.toList ∧ MapKept.Stamped ents' clock') → (vget es k).isSome = true → inVs own M w' id r (vmod es k f) xs
 | [], [], _, _, _, hs => by cases hs
 | e :: es, x :: xs, h, hn, hq, hs => by
  have h1 := h.1.1
  have hq : ∀ e' x', (if Kind.eqb .str k e.1 = true then some e.2 else vget es k) = some e' → (if Kind.eqb .str k x.1 = true then some x.2 else xget xs k) = some x' → x'.spot = some q ∧ repEs M .str .bool (f e'.nodes) ents'.toList ∧ MapKept.Stamped ents' clock' := hq
  have hs : (if Kind.eqb .str k e.1 = true then some e.2 else vget es k).isSome = true := hs
  show inVs own M w' id r (if Kind.eqb .str k e.1 = true then (e.1, { e.2 with nodes := f e.2.nodes }) :: es else e :: vmod es k f) (x :: xs)
  simp only [List.map_cons, List.nodup_cons] at hn
  by_cases hb : Kind.eqb .str k e.1 = true
  · rw [if_pos hb, if_pos (h1 ▸ hb)] at hq
    rw [if_pos hb]
    obtain ⟨g1, g2⟩ := hq _ _ rfl rfl
    obtain ⟨⟨h1, h2, h3, h4, q', ents, clock, h5, h6, h7, h8, h9⟩, h10⟩ := h
    rw [g1] at h5
    injection h5 with h5
    subst h5
    refine ⟨⟨h1, h2, h3, h4, q, ents', clock', g1, h6, h7, hw', g2⟩, h10.world fun s hs' b hb' ho => ⟨ho, hne b fun e => hn.1 ?_⟩⟩
    rw [g1, ← e, ← hb']
    exact hs'
  · rw [if_neg hb, if_neg (h1 ▸ hb)] at hq
    rw [if_neg hb] at hs
    rw [if_neg hb]
    have ⟨e', he'⟩ := Option.isSome_iff_exists.1 hs
    rcases inVs_get k h.2 with g | ⟨e2, x2, q2, en2, c2, g1, g2, _⟩
    · rw [g.1] at he'; cases he'
    · have hx := (hq e2 x2 g1 g2).1
      have hm := xget_mem g2
      obtain ⟨⟨h1, h2, h3, h4, q', ents, clock, h5, h6, h7, h8, h9⟩, h10⟩ := h
      refine ⟨⟨h1, h2, h3, h4, q', ents, clock, h5, h6, h7, (hne q' fun e => hn.1 ?_).trans h8, h9⟩, inVs.mod k f hw' hne h10 hn.2 hq hs⟩
      rw [h5, e, ← hx]
      exact hm
 | [], _ :: _, h, _, _, _ => h.elim
 | _ :: _, [], h, _, _, _ => h.elim
theorem spots_set (k : ByteArray) (z : XDv) : ∀ (xs : List (ByteArray × XDv)) (s : Option Nat), s ∈ (mset (k := .str) (v := .dv) xs k z).map (fun x => x.2.spot) → s = z.spot ∨ s ∈ xs.map fun x => x.2.spot
 | [], s, h => by
  have h : s ∈ [z.spot] := h
  exact .inl (List.mem_singleton.1 h)
 | x :: xs, s, h => by
  have h : s ∈ (if Kind.eqb .str k x.1 = true then (k, z) :: xs else x :: mset (k := .str) (v := .dv) xs k z).map (fun x => x.2.spot) := h
  by_cases hb : Kind.eqb .str k x.1 = true
  · rw [if_pos hb] at h
    rcases List.mem_cons.1 h with h | h
    · exact .inl h
    · exact .inr (List.mem_cons_of_mem _ h)
  · rw [if_neg hb] at h
    rcases List.mem_cons.1 h with h | h
    · exact .inr (h ▸ List.mem_cons_self)
    · rcases spots_set k z xs s h with h | h
      · exact .inl h
      · exact .inr (List.mem_cons_of_mem _ h)
theorem nodup_set (k : ByteArray) (z : XDv) : ∀ (xs : List (ByteArray × XDv)), (xs.map fun x => x.2.spot).Nodup → (z.spot ∉ (xs.map fun x => x.2.spot) ∨ ∃ x, xget xs k = some x ∧ x.spot = z.spot) → ((mset (k := .str) (v := .dv) xs k z).map fun x => x.2.spot).Nodup
 | [], _, _ => by
  show ([z.spot] : List (Option Nat)).Nodup
  simp
 | x :: xs, hn, hz => by
  have hz : z.spot ∉ ((x :: xs).map fun x => x.2.spot) ∨ ∃ y, (if Kind.eqb .str k x.1 = true then some x.2 else xget xs k) = some y ∧ y.spot = z.spot := hz
  show ((if Kind.eqb .str k x.1 = true then (k, z) :: xs else x :: mset (k := .str) (v := .dv) xs k z).map fun x => x.2.spot).Nodup
  simp only [List.map_cons, List.nodup_cons] at hn
  by_cases hb : Kind.eqb .str k x.1 = true
  · rw [if_pos hb] at hz ⊢
    simp only [List.map_cons, List.nodup_cons]
    refine ⟨?_, hn.2⟩
    rcases hz with hz | ⟨y, hy, hz⟩
    · exact fun h => hz (List.mem_cons_of_mem _ h)
    · injection hy with hy; subst hy; rw [← hz]; exact hn.1
  · rw [if_neg hb] at hz ⊢
    simp only [List.map_cons, List.nodup_cons]
    refine ⟨fun h => ?_, nodup_set k z xs hn.2 ?_⟩
    · rcases spots_set k z xs _ h with h | h
      · rcases hz with hz | ⟨y, hy, hz⟩
        · exact hz (h ▸ List.mem_cons_self)
        · exact hn.1 (by rw [h, ← hz]; exact xget_mem hy)
      · exact hn.1 h
    · rcases hz with hz | hz
      · exact .inl fun h => hz (List.mem_cons_of_mem _ h)
      · exact .inr hz
theorem nodup_del (k : ByteArray) : ∀ (xs : List (ByteArray × XDv)), (xs.map fun x => x.2.spot).Nodup → ((mdel (k := .str) (v := .dv) xs k).map fun x => x.2.spot).Nodup ∧ ∀ s ∈ (mdel (k := .str) (v := .dv) xs k).map (fun x => x.2.spot), s ∈ xs.map fun x => x.2.spot
 | [], h => ⟨h, fun _ h => h⟩
 | x :: xs, hn => by
  show ((if Kind.eqb .str k x.1 = true then xs else x :: mdel (k := .str) (v := .dv) xs k).map fun x => x.2.spot).Nodup ∧ ∀ s ∈ (if Kind.eqb .str k x.1 = true then xs else x :: mdel (k := .str) (v := .dv) xs k).map (fun x => x.2.spot), s ∈ (x :: xs).map fun x => x.2.spot
  simp only [List.map_cons, List.nodup_cons] at hn
  obtain ⟨h1, h2⟩ := nodup_del k xs hn.2
  by_cases hb : Kind.eqb .str k x.1 = true
  · rw [if_pos hb]
    exact ⟨hn.2, fun s h => List.mem_cons_of_mem _ h⟩
  · rw [if_neg hb]
    simp only [List.map_cons, List.nodup_cons]
    refine ⟨⟨fun h => hn.1 (h2 _ h), h1⟩, fun s h => ?_⟩
    rcases List.mem_cons.1 h with h | h
    · exact h ▸ List.mem_cons_self
    · exact List.mem_cons_of_mem _ (h2 s h)
theorem xget_set (k : ByteArray) (z : XDv) : ∀ (xs : List (ByteArray × XDv)), xget (mset (k := .str) (v := .dv) xs k z) k = some z
 | [] => by
  show (if Kind.eqb .str k k = true then some z else none) = _
  rw [if_pos (by simp [Kind.eqb])]
 | x :: xs => by
  show xget (if Kind.eqb .str k x.1 = true then (k, z) :: xs else x :: mset (k := .str) (v := .dv) xs k z) k = _
  by_cases hb : Kind.eqb .str k x.1 = true
  · rw [if_pos hb]
    show (if Kind.eqb .str k k = true then some z else xget xs k) = _
    rw [if_pos (by simp [Kind.eqb])]
  · rw [if_neg hb]
    show (if Kind.eqb .str k x.1 = true then some x.2 else xget (mset (k := .str) (v := .dv) xs k z) k) = _
    rw [if_neg hb]
    exact xget_set k z xs

theorem volAt_inv {hr : List AObj} {id n : Nat} {es : List (ByteArray × XVn)} {k : ByteArray} (h : volAt hr id n = some (es, k)) : hget hr id = .vols es (some (n, k)) := by
 unfold volAt at h
 split at h
 · rename_i es' n' k' hg
   split at h
   · rename_i hn
     subst hn
     injection h with h
     injection h with h1 h2
     subst h1; subst h2
     exact hg
   · cases h
 · cases h
theorem rep_agg4 {a b c d : AV} {v : Value} (h : rep ρ M noG (.agg [a, b, c, d]) v) : ∃ p q r s, v = .agg #[p, q, r, s] ∧ rep ρ M noG a p ∧ rep ρ M noG b q ∧ rep ρ M noG c r ∧ rep ρ M noG d s := by
 simp only [rep] at h
 obtain ⟨vs, rfl, h⟩ := h
 match vs, h with
 | [p, q, r, s], h => simp only [repL, and_true] at h; exact ⟨p, q, r, s, rfl, h⟩
 | [], h => simp [repL] at h
 | [_], h => simp [repL] at h
 | [_, _], h => simp [repL] at h
 | [_, _, _], h => simp [repL] at h
 | _ :: _ :: _ :: _ :: _ :: _, h => simp [repL] at h
theorem vols_ref (H : SimH B w0 M0 h w ρ M) {id : Nat} {es : List (ByteArray × XVn)} {al : Option (Nat × ByteArray)} (ho : hget h id = .vols es al) {v : Value} (hv : rep ρ M noG (.map id) v) :
  ∃ r ents clock xs, v = .map (some r) ∧ ρ id = some (.blk r) ∧ ρ.own r = some id ∧ w.heap[r]? = some (.map ents clock) ∧ repEs M .str .dv xs ents.toList ∧ MapKept.Stamped ents clock ∧ inVs ρ.own M w id r es xs ∧ (xs.map fun x => x.2.spot).Nodup ∧ alOk ρ.pl xs al := by
 obtain ⟨r, ents, clock, xs, h1, h2⟩ := vols_block H ho
 simp only [rep] at hv
 obtain ⟨r', hr, rfl⟩ := hv
 rw [h1] at hr
 injection hr with hr
 injection hr with hr
 subst hr
 exact ⟨r, ents, clock, xs, rfl, h1, h2⟩
theorem lookupV_run (H : SimH B w0 M0 h w ρ M) {id nid : Nat} {es : List (ByteArray × XVn)} {al : Option (Nat × ByteArray)} (ho : hget h id = .vols es al) (hid : ρ nid = none) (hne : id ≠ nid) {ty kt et : TypeId} (hu : P.underlying ty = some (.map kt et))
  (hk : keyOk P kt .str = true) (hz : zeroOk P et .dv = true) {mv : Value} (hm : rep ρ M noG (.map id) mv) (key : ByteArray) (ok : Bool) {x : AV} (hx : x = .agg [.int .i64 ((vget es key).getD default).size, .str ((vget es key).getD default).zone, .int .u64 ((vget es key).getD default).tag, .mapq (vget es key).isSome id nid]) :
  ∃ u ρ', (Instr.lookup ty mv (.string key) ok).run P w = .ok u w ∧ ρ.only ρ' [(nid, .dead), (id, .vols es (some (nid, key)))] ∧ SimH B w0 M0 (applyEff h [(nid, .dead), (id, .vols es (some (nid, key)))]) w ρ' M ∧
   rep ρ' M noG (if ok then .tup [x, .bool (vget es key).isSome] else x) u := by
 obtain ⟨r, ents, clock, xs, rfl, h1, h2, h3, h4, hst, h5, h6, h7⟩ := vols_ref H ho hm
 obtain ⟨z, hrun, hzv⟩ := lookup_core h3 h4 hu hk hz (str_repV key) ok
 have hzv := repV_dv hzv
 have hkill : SimH B w0 M0 (hset h nid .dead) w ρ M := H.kill nid
 have hoK : hget (hset h nid .dead) id = .vols es al := by rw [hget_hset, if_neg (Ne.symm hne)]; exact ho

 have fin : ∀ (ρ' : Loc), ρ'.own = ρ.own → ρ.only ρ' [(nid, .dead), (id, .vols es (some (nid, key)))] → alOk ρ'.pl xs (some (nid, key)) → (∀ i, i ≠ nid → ρ' i = ρ i) → SimH B w0 M0 (applyEff h [(nid, .dead), (id, .vols es (some (nid, key)))]) w ρ' M := by
  intro ρ' ho' honly hal hoth
  have hle := honly.1
  refine ⟨fun i => ?_, fun i hi => ?_, fun b i hi => by rw [ho'] at hi; exact H.own b i hi, H.mem, H.old, H.below, H.size, H.good⟩
  · show okObj ρ' M w i (hget (hset (hset h nid .dead) id (.vols es (some (nid, key)))) i)
    rw [hget_hset]
    by_cases e : id = i
    · subst e
      rw [if_pos rfl]
      exact ⟨r, ents, clock, xs, hle _ _ h1, by rw [ho']; exact h2, h3, h4, hst, by rw [ho']; exact h5, h6, hal⟩
    · rw [if_neg e]
      exact (hkill.obj i).keep hle (Mem.le_refl _) fun b hb => ⟨by rw [ho']; exact hb, rfl, fun _ h => h⟩
  · show ρ' i = none
    have hi : (hset (hset h nid .dead) id (.vols es (some (nid, key)))).length ≤ i := hi
    rw [length_hset, length_hset] at hi
    rw [hoth i (by omega)]
    exact H.fresh i (by omega)
 have cellsR : ∀ (ρ' : Loc) (q : Value), rep ρ' M noG (.mapq (vget es key).isSome id nid) q → rep ρ' M noG (if ok then .tup [x, .bool (vget es key).isSome] else x) (if ok then .tuple #[.agg #[.int .i64 ((vget es key).getD default).size, .string ((vget es key).getD default).zone, .int .u64 ((vget es key).getD default).tag, q], .bool (vget es key).isSome] else .agg #[.int .i64 ((vget es key).getD default).size, .string ((vget es key).getD default).zone, .int .u64 ((vget es key).getD default).tag, q]) := by
  intro ρ' q hq
  have hx' : rep ρ' M noG x (.agg #[.int .i64 ((vget es key).getD default).size, .string ((vget es key).getD default).zone, .int .u64 ((vget es key).getD default).tag, q]) := by
   rw [hx]
   simp only [rep]
   exact ⟨_, rfl, by simp only [repL, and_true]; exact ⟨by rw [rep], by rw [rep], by rw [rep], hq⟩⟩
  cases ok
  · exact hx'
  · simp only [if_true, rep]
    exact ⟨_, rfl, by simp only [repL]; exact ⟨hx', by rw [rep], trivial⟩⟩
 rcases inVs_get key h5 with ⟨g1, g2⟩ | ⟨e, y, q, en, cl, g1, g2, g3, g4, g5, g6, g7, g8, g9, g10⟩
 · have g2' : mget (k := .str) (v := .dv) xs key = none := g2
   rw [g2'] at hrun hzv
   refine ⟨_, ρ, hrun, Loc.only_refl _ _, fin ρ rfl (Loc.only_refl _ _) (fun x hx => by rw [g2] at hx; cases hx) (fun _ _ => rfl), ?_⟩
   have := cellsR ρ (.map none) (by rw [rep]; exact .inl ⟨by rw [g1]; rfl, rfl⟩)
   rw [g1] at this ⊢
   rw [hzv]
   exact this
 · have g2' : mget (k := .str) (v := .dv) xs key = some y := g2
   rw [g2'] at hrun hzv
   refine ⟨_, ρ.put0 nid (.blk q), hrun, Loc.only_put0 hid _ _ List.mem_cons_self, fin (ρ.put0 nid (.blk q)) rfl (Loc.only_put0 hid _ _ List.mem_cons_self) (fun x hx => ?_) (fun i hi => by simp [Loc.put0, hi]), ?_⟩
   · rw [g2] at hx
     injection hx with hx
     subst hx
     exact ⟨q, g6, by simp [Loc.put0]⟩
   · have := cellsR (ρ.put0 nid (.blk q)) (.map (some q)) (by rw [rep]; exact .inr ⟨by rw [g1]; rfl, q, by simp [Loc.put0], rfl⟩)
     rw [hzv]
     rw [g1] at this ⊢
     simp only [Option.getD_some, Option.isSome_some] at this ⊢
     rw [g6, ← g3, ← g4, ← g5]
     exact this
theorem mapq_ref (H : SimH B w0 M0 h w ρ M) {id n : Nat} {b : Bool} {es : List (ByteArray × XVn)} {k : ByteArray} (ho : hget h id = .vols es (some (n, k))) {v : Value} (hv : rep ρ M noG (.mapq b id n) v) (hb : b = (vget es k).isSome) :
  (v = .map none ∧ vget es k = none) ∨ ∃ r ents clock xs e x q en cl, v = .map (some q) ∧ ρ id = some (.blk r) ∧ ρ.own r = some id ∧ w.heap[r]? = some (.map ents clock) ∧ repEs M .str .dv xs ents.toList ∧ MapKept.Stamped ents clock ∧ inVs ρ.own M w id r es xs ∧ (xs.map fun x => x.2.spot).Nodup ∧ alOk ρ.pl xs (some (n, k)) ∧
    vget es k = some e ∧ xget xs k = some x ∧ x.spot = some q ∧ q ≠ r ∧ ρ.own q = some id ∧ w.heap[q]? = some (.map en cl) ∧ repEs M .str .bool e.nodes en.toList ∧ MapKept.Stamped en cl := by
 obtain ⟨r, ents, clock, xs, h1, h2, h3, h4, hst, h5, h6, h7⟩ := vols_block H ho
 simp only [rep] at hv
 rcases inVs_get k h5 with ⟨g1, g2⟩ | ⟨e, x, q, en, cl, g1, g2, _, _, _, g6, g7, g8, g9, g10⟩
 · rw [g1] at hb
   rcases hv with hv | hv
   · exact .inl ⟨hv.2, g1⟩
   · rw [hv.1] at hb; cases hb
 · rw [g1] at hb
   rcases hv with hv | ⟨_, r', hr', hv⟩
   · rw [hv.1] at hb; cases hb
   · obtain ⟨q', hq', hn⟩ := h7 x g2
     rw [g6] at hq'
     injection hq' with hq'
     subst hq'
     rw [hn] at hr'
     injection hr' with hr'
     injection hr' with hr'
     subst hr'
     exact .inr ⟨r, ents, clock, xs, e, x, q, en, cl, hv, h1, h2, h3, h4, hst, h5, h6, h7, g1, g2, g6, g7, g8, g9, g10⟩
theorem evLookupV_sound {E : Env} {nid : Nat} {ty : TypeId} {x y : Operand} {ok : Bool} {z : AV} {effs : Eff} {need : List Prop} (he : evLookupV E t hr nid ty x y ok = some (z, effs, need)) (hn : ∀ p ∈ need, p) (H : SimH B w0 M0 h w ρ M)
  (hle : ∀ id, hget hr id ≠ .dead → hget h id = hget hr id) (hfr : ∀ p ∈ effs, nid ≤ p.1 → ρ p.1 = none) (ht : ∀ i, rep ρ M noG (t.getD i .unk) (a.eval (.tmp i))) :
  ∃ u ρ', (Instr.lookup ty (a.eval x) (a.eval y) ok).run E.P w = .ok u w ∧ ρ.only ρ' effs ∧ SimH B w0 M0 (applyEff h effs) w ρ' M ∧ rep ρ' M noG z u := by
 have hx := rep_opd ht x
 have hy := rep_opd ht y
 unfold evLookupV at he
 split at he
 · rename_i kt et id key hd hxv hyv
   rw [hxv] at hx; rw [hyv] at hy
   simp only [rep] at hy
   rw [hy]
   split at he
   · rename_i es al hg
     split at he
     case isFalse => cases he
     rename_i hc
     simp only [Bool.and_eq_true, isVolT] at hc
     simp only [Option.some.injEq, Prod.mk.injEq] at he
     obtain ⟨rfl, rfl, rfl⟩ := he
     have hlt : id < nid := by
      have := hc.2
      simpa [Nat.blt_eq] using this
     obtain ⟨u, ρ', h1, h2, h3, h4⟩ := lookupV_run (P := E.P) H (by rw [hle id (by rw [hg]; simp)]; exact hg) (hfr (nid, .dead) List.mem_cons_self (Nat.le_refl _)) (by omega) hd hc.1.1 hc.1.2.2 hx key ok rfl
     exact ⟨u, ρ', h1, h2, h3, h4⟩
   · cases he
 · rename_i kt et b id n node hd hxv hyv
   rw [hxv] at hx; rw [hyv] at hy
   simp only [rep] at hy
   rw [hy]
   split at he
   · rename_i es key hv
     split at he
     case isFalse => cases he
     rename_i hc
     simp only [Option.some.injEq, Prod.mk.injEq] at he
     obtain ⟨rfl, rfl, rfl⟩ := he
     have hg := volAt_inv hv
     have hb := hn _ (List.mem_singleton_self _)
     have res : ∀ (o : Option Bool) (z : Value), repV M .bool (o.getD default) z → rep ρ M noG (if ok then .tup [.bool (o.getD false), .bool o.isSome] else .bool (o.getD false)) (if ok then .tuple #[z, .bool o.isSome] else z) := by
      intro o z hz
      have hz := repV_bool hz
      subst hz
      cases ok
      · simp only [Bool.false_eq_true, if_false, rep]; rfl
      · simp only [if_true, rep]
        exact ⟨_, rfl, by simp only [repL, rep, and_true]; rfl⟩
     rcases mapq_ref H (by rw [hle id (by rw [hg]; simp)]; exact hg) hx hb with ⟨hv0, g1⟩ | ⟨r, ents, clock, xs, e, xx, q, en, cl, hv0, h1, h2, h3, h4, hst, h5, h6, h7, g1, g2, g6, g7, g8, g9, g10⟩
     · obtain ⟨z, h1, h2⟩ := lookup_none (P := E.P) (M := M) (k := .str) (v := .bool) hd hc.1 hc.2.2 (str_repV node) ok w
       rw [hv0, g1]
       exact ⟨_, ρ, h1, Loc.only_refl _ _, H, res none z h2⟩
     · obtain ⟨z, h1, h2⟩ := lookup_core (P := E.P) (k := .str) (v := .bool) g9 g10.1 hd hc.1 hc.2.2 (str_repV node) ok
       rw [hv0, g1]
       exact ⟨_, ρ, h1, Loc.only_refl _ _, H, res _ z h2⟩
   · cases he
 · cases he
theorem setV_sim (H : SimH B w0 M0 h w ρ M) {id : Nat} {r : Nat} {ents : Array MapEntry} {clock : Nat} (h2 : ρ.own r = some id) (h3 : w.heap[r]? = some (.map ents clock)) (h1 : ρ id = some (.blk r))
  (es' : List (ByteArray × XVn)) (xs' : List (ByteArray × XDv)) (al' : Option (Nat × ByteArray)) (ents' : Array MapEntry) (cl' : Nat) (h4 : repEs M .str .dv xs' ents'.toList ∧ MapKept.Stamped ents' cl') (h5 : inVs ρ.own M w id r es' xs') (h6 : (xs'.map fun x => x.2.spot).Nodup) (h7 : alOk ρ.pl xs' al') :
  SimH B w0 M0 (hset h id (.vols es' al')) { w with heap := w.heap.setIfInBounds r (.map ents' cl') } ρ M := by
 have hrl := (Array.getElem?_eq_some_iff.1 h3).1
 refine H.setBlk h2 h3 ents' cl' _ ⟨r, ents', cl', xs', h1, h2, by simp [hrl], h4.1, h4.2, h5.world fun s hs q hq ho' => ⟨ho', ?_⟩, h6, h7⟩
 obtain ⟨q', hq', hne, _⟩ := inVs_own h5 s hs
 rw [hq] at hq'
 injection hq' with hq'
 subst hq'
 exact Array.getElem?_setIfInBounds_ne (Ne.symm hne)
theorem modV_sim (H : SimH B w0 M0 h w ρ M) {id n : Nat} {es : List (ByteArray × XVn)} {k : ByteArray} {r : Nat} {ents : Array MapEntry} {clock : Nat} {xs : List (ByteArray × XDv)} {e : XVn} {x : XDv} {q : Nat} {en : Array MapEntry} {cl : Nat} (h1 : ρ id = some (.blk r)) (h2 : ρ.own r = some id) (h3 : w.heap[r]? = some (.map ents clock)) (h4 : repEs M .str .dv xs ents.toList) (hst : MapKept.Stamped ents clock) (h5 : inVs ρ.own M w id r es xs) (h6 : (xs.map fun x => x.2.spot).Nodup) (h7 : alOk ρ.pl xs (some (n, k)))
  (g1 : vget es k = some e) (g2 : xget xs k = some x) (g6 : x.spot = some q) (g7 : q ≠ r) (g8 : ρ.own q = some id) (g9 : w.heap[q]? = some (.map en cl)) (f : List (ByteArray × Bool) → List (ByteArray × Bool)) (en' : Array MapEntry) (cl' : Nat) (hf : repEs M .str .bool (f e.nodes) en'.toList ∧ MapKept.Stamped en' cl') :
  SimH B w0 M0 (hset h id (.vols (vmod es k f) (some (n, k)))) { w with heap := w.heap.setIfInBounds q (.map en' cl') } ρ M := by
 have hql := (Array.getElem?_eq_some_iff.1 g9).1
 have hne : ∀ b, b ≠ q → (w.heap.setIfInBounds q (.map en' cl'))[b]? = w.heap[b]? := fun b hb => Array.getElem?_setIfInBounds_ne (Ne.symm hb)
 refine H.setBlk g8 g9 en' cl' _ ⟨r, ents, clock, xs, h1, h2, (hne r (Ne.symm g7)).trans h3, h4, hst, h5.mod k f (q := q) (ents' := en') (clock' := cl') (by simp [hql]) hne h6 (fun e' x' he' hx' => ?_) (by rw [g1]; rfl), h6, h7⟩
 rw [g1] at he'; rw [g2] at hx'
 injection he' with he'; injection hx' with hx'
 subst he'; subst hx'
 exact ⟨g6, hf⟩
theorem evUpdateV_sound {E : Env} {ty : TypeId} {x y z : Operand} {u : AV} {effs : Eff} {need : List Prop} (he : evUpdateV E t hr ty x y z = some (u, effs, need)) (hn : ∀ p ∈ need, p) (H : SimH B w0 M0 h w ρ M)
  (hle : ∀ id, hget hr id ≠ .dead → hget h id = hget hr id) (ht : ∀ i, rep ρ M noG (t.getD i .unk) (a.eval (.tmp i))) :
  u = .unk ∧ ∃ w' ρ', (Instr.mapUpdate ty (a.eval x) (a.eval y) (a.eval z)).run E.P w = .ok () w' ∧ ρ.only ρ' effs ∧ SimH B w0 M0 (applyEff h effs) w' ρ' M := by
 have hx := rep_opd ht x
 have hy := rep_opd ht y
 have hz := rep_opd ht z
 unfold evUpdateV at he
 split at he
 · rename_i kt et id key s zo g b id' n hd hxv hyv hzv
   rw [hxv] at hx; rw [hyv] at hy; rw [hzv] at hz
   simp only [rep] at hy
   rw [hy]
   split at he
   case h_2 => cases he
   rename_i es k hv
   split at he
   case isFalse => cases he
   rename_i hc
   obtain ⟨hc, rfl⟩ := hc
   simp only [Option.some.injEq, Prod.mk.injEq] at he
   obtain ⟨rfl, rfl, rfl⟩ := he
   obtain ⟨rfl, hb, hs⟩ := hn _ (List.mem_singleton_self _)
   have hg := volAt_inv hv
   have ho := (hle id' (by rw [hg]; simp)).trans hg
   obtain ⟨p0, p1, p2, p3, hagg, q0, q1, q2, q3⟩ := rep_agg4 hz
   simp only [rep] at q0 q1 q2
   subst q0; subst q1; subst q2
   rcases mapq_ref H ho q3 (by rw [hb, hs]) with ⟨_, g1⟩ | ⟨r, ents, clock, xs, e, xx, q, en, cl, hv0, h1, h2, h3, h4, hst, h5, h6, h7, g1, g2, g6, g7, g8, g9, g10⟩
   · rw [g1] at hs; cases hs
   · subst hv0
     have hmv : a.eval x = .map (some r) := by
      simp only [rep] at hx
      obtain ⟨r', hr', hx⟩ := hx
      rw [h1] at hr'
      injection hr' with hr'; injection hr' with hr'
      subst hr'
      exact hx
     rw [hmv, hagg]
     obtain ⟨es', cl', hrun, hrep⟩ := update_core (P := E.P) (k := .str) (v := .dv) h3 h4 hst hd hc (str_repV key) (dv_repV (M := M) ⟨s, zo, g, some q⟩)
     refine ⟨rfl, _, ρ, hrun, Loc.only_refl _ _, ?_⟩
     refine setV_sim H h2 h3 h1 _ _ _ _ _ hrep (h5.set key _ ⟨s, zo, g, some q⟩ ⟨rfl, rfl, rfl⟩ rfl g7 g8 g9 (by rw [g1]; exact g10)) (nodup_set key _ xs h6 (.inr ⟨xx, g2, g6⟩)) ?_
     intro x' hx'
     rw [xget_set] at hx'
     injection hx' with hx'
     subst hx'
     obtain ⟨q', hq', hpl⟩ := h7 xx g2
     rw [g6] at hq'
     exact ⟨q', hq', hpl⟩
 · rename_i kt et id key s zo g m hd hxv hyv hzv
   rw [hxv] at hx; rw [hyv] at hy; rw [hzv] at hz
   simp only [rep] at hy
   rw [hy]
   split at he
   case h_2 => cases he
   rename_i es al ns hg hgm
   split at he
   case isFalse => cases he
   rename_i hc
   simp only [Option.some.injEq, Prod.mk.injEq] at he
   obtain ⟨rfl, rfl, rfl⟩ := he
   have ho := (hle id (by rw [hg]; simp)).trans hg
   have hom := (hle m (by rw [hgm]; simp)).trans hgm
   have hmi : m ≠ id := by rintro rfl; rw [ho] at hom; cases hom
   obtain ⟨p0, p1, p2, p3, hagg, q0, q1, q2, q3⟩ := rep_agg4 hz
   simp only [rep] at q0 q1 q2 q3
   subst q0; subst q1; subst q2
   obtain ⟨q, hq, rfl⟩ := q3
   have hobm := H.obj m
   rw [hom] at hobm
   obtain ⟨q', en, cl, k1, k2, k3, k4⟩ := hobm
   rw [hq] at k1
   injection k1 with k1; injection k1 with k1
   subst k1
   obtain ⟨r, ents, clock, xs, hmv, h1, h2, h3, h4, hst, h5, h6, h7⟩ := vols_ref H ho hx
   rw [hmv, hagg]
   obtain ⟨es', cl', hrun, hrep⟩ := update_core (P := E.P) (k := .str) (v := .dv) h3 h4 hst hd hc (str_repV key) (dv_repV (M := M) ⟨s, zo, g, some q⟩)

   have hqr : q ≠ r := by rintro rfl; rw [k2] at h2; injection h2 with h2; exact hmi h2
   let ρ' : Loc := ⟨ρ.pl, fun b => if b = q then some id else ρ.own b⟩
   have hkill := H.kill m
   have hownr : ρ'.own r = some id := by show (if r = q then some id else ρ.own r) = _; rw [if_neg (Ne.symm hqr)]; exact h2
   have hownq : ρ'.own q = some id := by show (if q = q then some id else ρ.own q) = _; rw [if_pos rfl]
   have H' : SimH B w0 M0 (hset h m .dead) w ρ' M := by
    refine ⟨fun i => ?_, hkill.fresh, fun b i hi => ?_, H.mem, H.old, H.below, H.size, H.good⟩
    · by_cases hmm : m = i
      · subst hmm; rw [hget_hset, if_pos rfl]; trivial
      · refine (hkill.obj i).keep (fun _ _ h => h) (Mem.le_refl _) fun b hb => ⟨?_, rfl, fun _ h => h⟩
        show (if b = q then some id else ρ.own b) = some i
        rw [if_neg (by rintro rfl; rw [k2] at hb; injection hb with hb; exact hmm hb)]
        exact hb
    · have hi : (if b = q then some id else ρ.own b) = some i := hi
      by_cases hbq : b = q
      · subst hbq; exact H.own b m k2
      · rw [if_neg hbq] at hi; exact H.own b i hi
   have ho' : hget (hset h m .dead) id = .vols es al := by rw [hget_hset, if_neg hmi]; exact ho
   refine ⟨rfl, _, ρ', hrun, ⟨Loc.le_refl _, fun _ _ => rfl⟩, ?_⟩
   have h5' : inVs ρ'.own M w id r es xs := h5.world fun s hs b hb hob => ⟨by
    show (if b = q then some id else ρ.own b) = some id
    rw [if_neg (by rintro rfl; rw [k2] at hob; injection hob with hob; exact hmi hob)]
    exact hob, rfl⟩
   refine setV_sim (ρ := ρ') H' hownr h3 h1 _ _ _ _ _ hrep (h5'.set key _ ⟨s, zo, g, some q⟩ ⟨rfl, rfl, rfl⟩ rfl hqr hownq k3 k4) (nodup_set key _ xs h6 (.inl fun hmem => ?_)) trivial
   obtain ⟨q2, e1, _, e2⟩ := inVs_own h5 _ hmem
   injection e1 with e1
   subst e1
   rw [k2] at e2
   injection e2 with e2
   exact hmi e2
 · rename_i kt et b id n node qv hd hxv hyv hzv
   rw [hxv] at hx; rw [hyv] at hy; rw [hzv] at hz
   simp only [rep] at hy hz
   rw [hy, hz]
   split at he
   case h_2 => cases he
   rename_i es k hv
   split at he
   case isFalse => cases he
   rename_i hc
   simp only [Option.some.injEq, Prod.mk.injEq] at he
   obtain ⟨rfl, rfl, rfl⟩ := he
   obtain ⟨hb, hs⟩ := hn _ (List.mem_singleton_self _)
   have hg := volAt_inv hv
   have ho := (hle id (by rw [hg]; simp)).trans hg
   rcases mapq_ref H ho hx (by rw [hb, hs]) with ⟨_, g1⟩ | ⟨r, ents, clock, xs, e, xx, q, en, cl, hv0, h1, h2, h3, h4, hst, h5, h6, h7, g1, g2, g6, g7, g8, g9, g10⟩
   · rw [g1] at hs; cases hs
   · rw [hv0]
     obtain ⟨es', cl', hrun, hrep⟩ := update_core (P := E.P) (k := .str) (v := .bool) g9 g10.1 g10.2 hd hc (str_repV node) (bool_repV (M := M) qv)
     exact ⟨rfl, _, ρ, hrun, Loc.only_refl _ _, modV_sim H h1 h2 h3 h4 hst h5 h6 h7 g1 g2 g6 g7 g8 g9 _ _ _ hrep⟩
 · cases he
theorem evDeleteV_sound {E : Env} {ty : TypeId} {x y : Operand} {u : AV} {effs : Eff} {need : List Prop} (he : evDeleteV E t hr ty x y = some (u, effs, need)) (hn : ∀ p ∈ need, p) (H : SimH B w0 M0 h w ρ M)
  (hle : ∀ id, hget hr id ≠ .dead → hget h id = hget hr id) (ht : ∀ i, rep ρ M noG (t.getD i .unk) (a.eval (.tmp i))) (ats : Array TypeId) (hat : ats[0]? = some ty) (rt : TypeId) (args : Array Value) (ha0 : args[0]? = some (a.eval x)) (ha1 : args[1]? = some (a.eval y)) :
  u = .tup [] ∧ ∃ w', (Builtin.delete_ ats rt args).run E.P w = .ok (.tuple #[]) w' ∧ SimH B w0 M0 (applyEff h effs) w' ρ M := by
 have hx := rep_opd ht x
 have hy := rep_opd ht y
 unfold evDeleteV at he
 split at he
 · rename_i kt et id key hd hxv hyv
   rw [hxv] at hx; rw [hyv] at hy
   simp only [rep] at hy
   rw [hy] at ha1
   split at he
   case h_2 => cases he
   rename_i es al hg
   split at he
   case isFalse => cases he
   rename_i hc
   simp only [Option.some.injEq, Prod.mk.injEq] at he
   obtain ⟨rfl, rfl, rfl⟩ := he
   have ho := (hle id (by rw [hg]; simp)).trans hg
   obtain ⟨r, ents, clock, xs, hmv, h1, h2, h3, h4, hst, h5, h6, h7⟩ := vols_ref H ho hx
   rw [hmv] at ha0
   obtain ⟨es', cl', hrun, hrep⟩ := delete_core (P := E.P) (k := .str) (v := .dv) h3 h4 hst hd hc (str_repV key) ats hat rt args ha0 ha1
   exact ⟨rfl, _, hrun, setV_sim H h2 h3 h1 _ _ none _ _ hrep (h5.del key) (nodup_del key xs h6).1 trivial⟩
 · rename_i kt et b id n node hd hxv hyv
   rw [hxv] at hx; rw [hyv] at hy
   simp only [rep] at hy
   rw [hy] at ha1
   split at he
   case h_2 => cases he
   rename_i es k hv
   split at he
   case isFalse => cases he
   rename_i hc
   simp only [Option.some.injEq, Prod.mk.injEq] at he
   obtain ⟨rfl, rfl, rfl⟩ := he
   have hb := hn _ (List.mem_singleton_self _)
   have hg := volAt_inv hv
   have ho := (hle id (by rw [hg]; simp)).trans hg
   rcases mapq_ref H ho hx hb with ⟨hv0, g1⟩ | ⟨r, ents, clock, xs, e, xx, q, en, cl, hv0, h1, h2, h3, h4, hst, h5, h6, h7, g1, g2, g6, g7, g8, g9, g10⟩
   · rw [hv0] at ha0
     refine ⟨rfl, w, delete_none (P := E.P) (M := M) (k := .str) hd hc (str_repV node) ats hat rt args ha0 ha1 w, ?_⟩
     have hsame : ∀ (f : List (ByteArray × Bool) → List (ByteArray × Bool)) (es : List (ByteArray × XVn)), vget es k = none → vmod es k f = es := by
      intro f es
      induction es with
      | nil => intro _; rfl
      | cons e es ih =>
       intro hh
       have hh : (if Kind.eqb .str k e.1 = true then some e.2 else vget es k) = none := hh
       show (if Kind.eqb .str k e.1 = true then _ else e :: vmod es k f) = e :: es
       by_cases hbb : Kind.eqb .str k e.1 = true
       · rw [if_pos hbb] at hh; cases hh
       · rw [if_neg hbb] at hh ⊢
         rw [ih hh]
     rw [hsame _ es g1]
     refine H.update id _ (fun _ _ => rfl) (Loc.le_refl _) (Mem.le_refl _) (by have := H.obj id; rw [ho] at this; exact this) (fun _ _ _ _ hr => ⟨hr, rfl, fun _ h => h⟩) (fun r i hr => H.own r i hr) H.mem (fun _ _ _ => rfl) (Keeps.refl _ _)
   · rw [hv0] at ha0
     obtain ⟨es', cl', hrun, hrep⟩ := delete_core (P := E.P) (k := .str) (v := .bool) g9 g10.1 g10.2 hd hc (str_repV node) ats hat rt args ha0 ha1
     exact ⟨rfl, _, hrun, modV_sim H h1 h2 h3 h4 hst h5 h6 h7 g1 g2 g6 g7 g8 g9 _ _ _ hrep⟩
 · cases he
theorem repEs_length : ∀ {k v : Kind} {xs : List (k.Ty × v.Ty)} {es : List MapEntry}, repEs M k v xs es → xs.length = es.length
 | _, _, [], [], _ => rfl
 | _, _, _ :: _, _ :: _, h => by simp only [repEs] at h; simp [repEs_length h.2.2]
 | _, _, [], _ :: _, h => by simp [repEs] at h
 | _, _, _ :: _, [], h => by simp [repEs] at h
theorem inVs_length {own : Nat → Option Nat} {id r : Nat} : ∀ {es : List (ByteArray × XVn)} {xs : List (ByteArray × XDv)}, inVs own M w id r es xs → es.length = xs.length
 | [], [], _ => rfl
 | _ :: _, _ :: _, h => by simp [inVs_length h.2]
 | [], _ :: _, h => h.elim
 | _ :: _, [], h => h.elim
end
end Go.Eng
end
section
namespace Go.Eng
open Go.RowKit (Below)

section
variable {E : Env} {B : Nat → Prop} {w0 w : World} {M0 M : Mem} {h hr : List AObj} {ρ : Loc} {t raw0 : List AV} {a : Act}

theorem run_bytes_str {P : Program} {src dst e : TypeId} {ns : List Int} {v : Value} (hs : P.underlying src = some (.slice e)) (he : P.underlying e = some (.int .u8)) (hd : P.underlying dst = some .string)
  (hv : ∃ a cap, v = .slice a (Coll.len ⟨.int .u8, ns⟩) cap ∧ (0 < Coll.len ⟨.int .u8, ns⟩ → ∃ b o, a = some ⟨b, o, none⟩ ∧ readsW w M ⟨.int .u8, ns⟩ b o)) :
  (convert src dst v).run P w = .ok (.string (bytesStr ns)) w := by
 obtain ⟨a, cap, rfl, hr⟩ := hv
 rw [run_convert_bytes_string w src dst e a _ cap hs he hd]
 rcases Nat.eq_zero_or_pos (Coll.len ⟨.int .u8, ns⟩) with h0 | hp
 · have : ns = [] := List.eq_nil_of_length_eq_zero h0
   subst this
   cases a with
   | none => simp [Conv.bytesToString, Sem.run_pure, bytesStr]
   | some a => exact run_bytesToString w a 0 cap [] (by simp [loadCells, loadCellsFrom, Sem.run_pure])
 · obtain ⟨b, o, rfl, hrw⟩ := hr hp
   obtain ⟨news, h1, h2, h3⟩ := hrw.row
   have hn : news = ns.map (Value.int .u8) := by
    apply List.ext_getElem?
    intro i
    rw [List.getElem?_map]
    rcases Nat.lt_or_ge i ns.length with hi | hi
    · obtain ⟨u, hu, hx⟩ := h3 i hi 0 (.int .u8 ns[i]) (by
        show [AV.int IntKind.u8 (ns.getD i default)][0]? = _
        rw [List.getD_eq_getElem?_getD, List.getElem?_eq_getElem hi]
        rfl)
      have hx' : u = .int .u8 ns[i] := hx
      have hu' : news[i]? = some u := by
       have : i * (Coll.esz ⟨.int .u8, ns⟩) + 0 = i := by show i * 1 + 0 = i; omega
       rw [this] at hu
       exact hu
      rw [hu', hx', List.getElem?_eq_getElem hi]
      rfl
    · rw [List.getElem?_eq_none hi, List.getElem?_eq_none (by rw [h1]; show ns.length * 1 ≤ i; omega)]
      rfl
   refine run_bytesToString w _ _ cap ns ?_
   rw [run_loadCells news (by rw [h1]; show ns.length * 1 = ns.length; omega) h2, hn]
theorem pureOut_inv {x y : AV} {effs : Eff} {need : List Prop} (h : pureOut x = some (y, effs, need)) : x = y ∧ effs = [] ∧ need = [] := by
 simp only [pureOut, Option.some.injEq, Prod.mk.injEq] at h
 exact ⟨h.1, h.2.1.symm, h.2.2.symm⟩
theorem bindOut_inv {x : Option AV} {y : AV} {effs : Eff} {need : List Prop} (h : x.bind pureOut = some (y, effs, need)) : x = some y ∧ effs = [] ∧ need = [] := by
 cases x with
 | none => cases h
 | some z =>
  obtain ⟨h1, h2, h3⟩ := pureOut_inv (by simpa using h)
  exact ⟨by rw [h1], h2, h3⟩

theorem freeze1 (H : SimH B w0 M0 h w ρ M) {id : Nat} {f : Bool} {c : Coll} (ho : hget h id = .vec f c) : ∃ M', M.le M' ∧ SimH B w0 M0 (hset h id (.vec true c)) w ρ M' := by
 cases f with
 | false => exact freeze_vec H ho
 | true =>
  have hn := H.obj id
  rw [ho] at hn
  exact ⟨M, Mem.le_refl _, H.update id _ (fun _ _ => rfl) (Loc.le_refl _) (Mem.le_refl _) hn (fun _ _ _ _ hr => ⟨hr, rfl, fun _ h => h⟩) (fun r i hr => H.own r i hr) H.mem (fun _ _ _ => rfl) (Keeps.refl _ _)⟩
theorem frzOf_mem {hr : List AObj} : ∀ {raw : List AV} {e : Nat × AObj}, e ∈ frzOf hr raw → ∃ c, hget hr e.1 = .vec false c ∧ e.2 = .vec true c
 | [], e, he => by simp [frzOf] at he
 | x :: raw, e, he => by
  unfold frzOf at he
  split at he
  · rename_i h; cases h
  · rename_i id xs h
    injection h with h1 h2
    subst h2
    split at he
    · rename_i c hc
      rcases List.mem_cons.1 he with rfl | he
      · exact ⟨c, hc, rfl⟩
      · exact frzOf_mem he
    · exact frzOf_mem he
  · rename_i y xs _ h
    injection h with h1 h2
    subst h2
    exact frzOf_mem he
theorem mem_frzOf {hr : List AObj} {id : Nat} {c : Coll} (hc : hget hr id = .vec false c) : ∀ {raw : List AV}, AV.vec id ∈ raw → (id, AObj.vec true c) ∈ frzOf hr raw
 | [], h => by cases h
 | x :: raw, h => by
  unfold frzOf
  rcases List.mem_cons.1 h with h | h
  · subst h
    simp only [hc]
    exact List.mem_cons_self
  · have ih := mem_frzOf hc h
    split
    · rename_i h'; cases h'
    · rename_i i xs h'
      injection h' with h1 h2
      subst h2
      split
      · exact List.mem_cons_of_mem _ ih
      · exact ih
    · rename_i y xs _ h'
      injection h' with h1 h2
      subst h2
      exact ih
theorem freezes (hr : List AObj) : ∀ (fz : Eff) (h : List AObj) (M : Mem), (∀ e ∈ fz, ∃ c, hget hr e.1 = .vec false c ∧ e.2 = .vec true c) → (∀ e ∈ fz, ∃ f c, hget h e.1 = .vec f c ∧ e.2 = .vec true c) → SimH B w0 M0 h w ρ M →
  ∃ M', M.le M' ∧ SimH B w0 M0 (applyEff h fz) w ρ M' ∧ (∀ id, (∀ e ∈ fz, e.1 ≠ id) → hget (applyEff h fz) id = hget h id) ∧ (∀ e ∈ fz, hget (applyEff h fz) e.1 = e.2)
 | [], h, M, _, _, H => ⟨M, Mem.le_refl _, H, fun _ _ => rfl, fun e he => by cases he⟩
 | (id, o) :: fz, h, M, hq, hh, H => by
   obtain ⟨f, c, h1, h2⟩ := hh (id, o) List.mem_cons_self
   simp only at h1 h2
   subst h2
   obtain ⟨M1, l1, H1⟩ := freeze1 H h1
   have hsame : ∀ e ∈ fz, e.1 = id → e.2 = .vec true c := by
    intro e he hid
    obtain ⟨c1, q1, q2⟩ := hq e (List.mem_cons_of_mem _ he)
    obtain ⟨c2, q3, q4⟩ := hq (id, .vec true c) List.mem_cons_self
    simp only at q3 q4
    rw [hid, q3] at q1
    injection q1 with _ q1
    rw [q2, ← q1]
    exact q4.symm
   obtain ⟨M2, l2, H2, g1, g2⟩ := freezes hr fz (hset h id (.vec true c)) M1 (fun e he => hq e (List.mem_cons_of_mem _ he)) (fun e he => by
    obtain ⟨f', c', q1, q2⟩ := hh e (List.mem_cons_of_mem _ he)
    rw [hget_hset]
    by_cases hid : id = e.1
    · rw [if_pos hid]; exact ⟨true, c, rfl, hsame e he hid.symm⟩
    · rw [if_neg hid]; exact ⟨f', c', q1, q2⟩) H1
   refine ⟨M2, Mem.le_trans l1 l2, H2, fun i hi => ?_, fun e he => ?_⟩
   · have := g1 i fun e he => hi e (List.mem_cons_of_mem _ he)
     simp only [applyEff, List.foldl_cons] at this ⊢
     rw [this, hget_hset, if_neg (hi (id, .vec true c) List.mem_cons_self)]
   · rcases List.mem_cons.1 he with rfl | he
     · by_cases hx : ∃ e ∈ fz, e.1 = id
       · obtain ⟨e, he, hid⟩ := hx
         have := g2 e he
         simp only [applyEff, List.foldl_cons] at this ⊢
         rw [hid] at this; rw [this]; exact hsame e he hid
       · have := g1 id fun e he hh => hx ⟨e, he, hh⟩
         simp only [applyEff, List.foldl_cons] at this ⊢
         rw [this, hget_hset, if_pos rfl]
     · exact g2 e he
theorem repL_coerceF {hf : List AObj} (H : SimH B w0 M0 hf w ρ M) (hq : ∀ id f c, hget hr id = .vec f c → AV.vec id ∈ raw0 → hget hf id = .vec true c) : ∀ {xs : List AV} {vs : List Value}, (∀ x ∈ xs, x ∈ raw0) → repL ρ M noG xs vs → repL ρ M noG (xs.map (coerceF hr)) vs
 | [], [], _, _ => by simp [repL]
 | x :: xs, v :: vs, hm, hx => by
  simp only [repL] at hx
  simp only [List.map_cons, repL]
  refine ⟨?_, repL_coerceF H hq (fun y hy => hm y (List.mem_cons_of_mem _ hy)) hx.2⟩
  unfold coerceF
  split
  · rename_i id
    split
    · rename_i f c hc
      have hv := hq id f c hc (hm _ List.mem_cons_self)
      have hobj := H.obj id
      rw [hv] at hobj
      obtain ⟨hh, g1, g2⟩ := hobj
      have h1 := hx.1
      simp only [rep] at h1 ⊢
      have h1 := h1.2
      rw [g1] at h1
      injection h1 with h1
      injection h1 with h1
      subst h1
      exact g2.repC
    · exact hx.1
  · exact hx.1
 | [], _ :: _, _, h => by simp [repL] at h
 | _ :: _, [], _, h => by simp [repL] at h
theorem applyEff_append (h : List AObj) (a b : Eff) : applyEff h (a ++ b) = applyEff (applyEff h a) b := by simp [applyEff]
theorem evCall1_sound (hK : KOk E) {nid : Nat} {g : FuncId} {raw cap : List AV} {x : AV} {effs : Eff} {need : List Prop} (he : evCall1 E g raw cap hr nid = some (x, effs, need)) (hn : ∀ p ∈ need, p) (H : SimH B w0 M0 h w ρ M)
  (hle : ∀ id, hget hr id ≠ .dead → hget h id = hget hr id) (hfr : ∀ p ∈ effs, nid ≤ p.1 → ρ p.1 = none) {us cvs : List Value} (hraw : repL ρ M noG raw us) (hcap : repL ρ M noG cap cvs) :
  (∀ (vs : Array Value) (w : World), (callFunc g vs).run E.P w = .ok (.enter g vs) w) ∧
  Calls E.P g ⟨us ++ cvs⟩ w fun e w' => ∃ v ρ' M', e = .returned v ∧ ρ.only ρ' effs ∧ M.le M' ∧ SimH B w0 M0 (applyEff h effs) w' ρ' M' ∧ rep ρ' M' noG x v := by
 unfold evCall1 at he
 split at he
 · rename_i o ho
   injection he with he
   subst he
   exact ⟨fun vs w => hK.enters _ _ _ _ _ ho vs w, hK.sound _ _ _ _ _ _ _ ho hn B w0 M0 h w ρ M _ H hle hfr (repL_append (repL_coerce H hle hraw) hcap)⟩
 · split at he
   · cases he
   · rename_i fz hfz hfz'
     split at he
     · rename_i x' effs' need' hk
       simp only [Option.some.injEq, Prod.mk.injEq] at he
       obtain ⟨rfl, rfl, rfl⟩ := he
       have hq1 : ∀ e ∈ frzOf hr raw, ∃ c, hget hr e.1 = .vec false c ∧ e.2 = .vec true c := fun e he => frzOf_mem he
       have hq2 : ∀ e ∈ frzOf hr raw, ∃ f c, hget h e.1 = .vec f c ∧ e.2 = .vec true c := fun e he => by
        obtain ⟨c, q1, q2⟩ := hq1 e he
        exact ⟨false, c, by rw [hle e.1 (by rw [q1]; simp)]; exact q1, q2⟩
       obtain ⟨M1, l1, H1, g1, g2⟩ := freezes hr (frzOf hr raw) h M hq1 hq2 H
       have k1 : ∀ id, (∀ e ∈ frzOf hr raw, e.1 ≠ id) → hget (applyEff hr (frzOf hr raw)) id = hget hr id := by
        have : ∀ (fz : Eff) (h : List AObj) (id : Nat), (∀ e ∈ fz, e.1 ≠ id) → hget (applyEff h fz) id = hget h id := by
         intro fz
         induction fz with
         | nil => intro h id _; rfl
         | cons e fz ih =>
          intro h id hne
          simp only [applyEff, List.foldl_cons]
          have := ih (hset h e.1 e.2) id fun e' he' => hne e' (List.mem_cons_of_mem _ he')
          simp only [applyEff] at this
          rw [this, hget_hset, if_neg (hne e List.mem_cons_self)]
        exact this _ hr
       have k2 : ∀ e ∈ frzOf hr raw, hget (applyEff hr (frzOf hr raw)) e.1 = e.2 := by
        have : ∀ (fz : Eff) (h : List AObj), (∀ e ∈ fz, ∃ c, hget hr e.1 = .vec false c ∧ e.2 = .vec true c) → ∀ e ∈ fz, hget (applyEff h fz) e.1 = e.2 := by
         intro fz
         induction fz with
         | nil => intro h _ e he; cases he
         | cons d fz ih =>
          intro h hq e he
          simp only [applyEff, List.foldl_cons]
          rcases List.mem_cons.1 he with rfl | he
          · by_cases hx : ∃ e' ∈ fz, e'.1 = e.1
            · obtain ⟨e', he', hid⟩ := hx
              have h1 := ih (hset h e.1 e.2) (fun e he => hq e (List.mem_cons_of_mem _ he)) e' he'
              obtain ⟨c1, q1, q2⟩ := hq e List.mem_cons_self
              obtain ⟨c2, q3, q4⟩ := hq e' (List.mem_cons_of_mem _ he')
              rw [hid, q1] at q3
              injection q3 with _ q3
              simp only [applyEff] at h1
              rw [hid] at h1; rw [h1, q4, q2, q3]
            · have : ∀ (fz : Eff) (h : List AObj) (id : Nat), (∀ e ∈ fz, e.1 ≠ id) → hget (applyEff h fz) id = hget h id := by
                intro fz
                induction fz with
                | nil => intro h id _; rfl
                | cons e fz ih =>
                 intro h id hne
                 simp only [applyEff, List.foldl_cons]
                 have := ih (hset h e.1 e.2) id fun e' he' => hne e' (List.mem_cons_of_mem _ he')
                 simp only [applyEff] at this
                 rw [this, hget_hset, if_neg (hne e List.mem_cons_self)]
              have := this fz (hset h e.1 e.2) e.1 fun e' he' hh => hx ⟨e', he', hh⟩
              simp only [applyEff] at this
              rw [this, hget_hset, if_pos rfl]
          · exact ih _ (fun e he => hq e (List.mem_cons_of_mem _ he)) e he
        exact this _ hr hq1
       have hle1 : ∀ id, hget (applyEff hr (frzOf hr raw)) id ≠ .dead → hget (applyEff h (frzOf hr raw)) id = hget (applyEff hr (frzOf hr raw)) id := by
        intro id hd
        by_cases hx : ∃ e ∈ frzOf hr raw, e.1 = id
        · obtain ⟨e, he, rfl⟩ := hx
          rw [g2 e he, k2 e he]
        · have hne : ∀ e ∈ frzOf hr raw, e.1 ≠ id := fun e he hh => hx ⟨e, he, hh⟩
          rw [g1 id hne, k1 id hne]
          rw [k1 id hne] at hd
          exact hle id hd
       have hF := repL_coerceF (hr := hr) (raw0 := raw) H1 (fun id f c hc hm => by
        cases f with
        | false => exact g2 _ (mem_frzOf hc hm)
        | true =>
         rw [g1 id fun e he hh => by
          obtain ⟨c1, q1, _⟩ := hq1 e he
          rw [hh, hc] at q1
          injection q1 with q1
          cases q1]
         rw [hle id (by rw [hc]; simp)]; exact hc) (fun x hx => hx) (repL_mono (Loc.le_refl _) l1 (fun _ _ h => h) _ _ hraw)
       have hs := hK.sound _ _ _ _ _ _ _ hk hn B w0 M0 _ w ρ M1 _ H1 hle1 (fun p hp hlt => hfr p (List.mem_append_right _ hp) hlt) (repL_append hF (repL_mono (Loc.le_refl _) l1 (fun _ _ h => h) _ _ hcap))
       refine ⟨fun vs w => hK.enters _ _ _ _ _ hk vs w, hs.mono ?_⟩
       rintro e w' ⟨v, ρ', M', he, h1, h2, h3, h4⟩
       exact ⟨v, ρ', M', he, Loc.only_more h1 fun e he => List.mem_append_right _ he, Mem.le_trans l1 h2, by rw [applyEff_append]; exact h3, h4⟩
     · cases he

theorem repL_nilColl : ∀ {ts : List TypeId} {xs : List AV} {vs : List Value}, repL ρ M noG xs vs → repL ρ M noG (nilColl E ts xs) vs
 | [], _, _, h => by unfold nilColl; exact h
 | _ :: _, [], _, h => by unfold nilColl; exact h
 | t :: ts, x :: xs, [], h => by simp [repL] at h
 | t :: ts, x :: xs, v :: vs, h => by
  simp only [repL] at h
  unfold nilColl
  simp only [repL]
  refine ⟨?_, repL_nilColl h.2⟩
  split
  · rename_i e hs
    split
    · have h1 := h.1
      simp only [rep] at h1 ⊢
      exact ⟨none, 0, h1, Nat.le_refl _, fun h0 => absurd h0 (Nat.lt_irrefl 0)⟩
    · exact h.1
  · exact h.1
theorem evCall_sound (hK : KOk E) {nid : Nat} {g : FuncId} {raw cap : List AV} {x : AV} {effs : Eff} {need : List Prop} (he : evCall E g raw cap hr nid = some (x, effs, need)) (hn : ∀ p ∈ need, p) (H : SimH B w0 M0 h w ρ M)
  (hle : ∀ id, hget hr id ≠ .dead → hget h id = hget hr id) (hfr : ∀ p ∈ effs, nid ≤ p.1 → ρ p.1 = none) {us cvs : List Value} (hraw : repL ρ M noG raw us) (hcap : repL ρ M noG cap cvs) :
  (∀ (vs : Array Value) (w : World), (callFunc g vs).run E.P w = .ok (.enter g vs) w) ∧
  Calls E.P g ⟨us ++ cvs⟩ w fun e w' => ∃ v ρ' M', e = .returned v ∧ ρ.only ρ' effs ∧ M.le M' ∧ SimH B w0 M0 (applyEff h effs) w' ρ' M' ∧ rep ρ' M' noG x v := by
 unfold evCall at he
 split at he
 · rename_i o ho
   injection he with he
   subst he
   exact evCall1_sound hK ho hn H hle hfr hraw hcap
 · exact evCall1_sound hK he hn H hle hfr (repL_nilColl hraw) hcap
theorem restFrom_mem : ∀ (l : List AObj) (j : Nat) (e : Nat × AObj), e ∈ restFrom j l → ∃ i es al, e.1 = j + i ∧ l[i]? = some (.vols es (some al)) ∧ e.2 = .vols es none
 | [], _, e, h => by cases h
 | o :: r, j, e, h => by
  have next : e ∈ restFrom (j + 1) r → ∃ i es al, e.1 = j + i ∧ (o :: r)[i]? = some (.vols es (some al)) ∧ e.2 = .vols es none := fun h =>
   let ⟨i, es, al, h1, h2, h3⟩ := restFrom_mem r (j + 1) e h
   ⟨i + 1, es, al, by omega, by simpa using h2, h3⟩
  unfold restFrom at h
  split at h
  · rename_i h'; cases h'
  · rename_i j' es al r' h'
    injection h' with h1 h2
    subst h1; subst h2
    rcases List.mem_cons.1 h with rfl | h
    · exact ⟨0, es, al, rfl, rfl, rfl⟩
    · exact next h
  · rename_i h'
    injection h' with h1 h2
    subst h2
    exact next h
theorem rests : ∀ (rs : Eff) (h hr : List AObj), (∀ e ∈ rs, ∃ es al, hget hr e.1 = .vols es al ∧ e.2 = .vols es none) → (∀ id, hget hr id ≠ .dead → hget h id = hget hr id) → SimH B w0 M0 h w ρ M →
  SimH B w0 M0 (applyEff h rs) w ρ M ∧ ∀ id, hget (applyEff hr rs) id ≠ .dead → hget (applyEff h rs) id = hget (applyEff hr rs) id
 | [], h, hr, _, hle, H => ⟨H, hle⟩
 | (id, o) :: rs, h, hr, hq, hle, H => by
   obtain ⟨es, al, h1, h2⟩ := hq (id, o) List.mem_cons_self
   simp only at h1 h2
   subst h2
   have ho := (hle id (by rw [h1]; simp)).trans h1
   have H1 : SimH B w0 M0 (hset h id (.vols es none)) w ρ M := H.update id _ (fun _ _ => rfl) (Loc.le_refl _) (Mem.le_refl _) (by
    have := H.obj id
    rw [ho] at this
    obtain ⟨r, ents, clock, xs, g1, g2, g3, g4, g45, g5, g6, _⟩ := this
    exact ⟨r, ents, clock, xs, g1, g2, g3, g4, g45, g5, g6, trivial⟩) (fun _ _ _ _ hr => ⟨hr, rfl, fun _ h => h⟩) (fun r i hr => H.own r i hr) H.mem (fun _ _ _ => rfl) (Keeps.refl _ _)
   refine rests rs (hset h id (.vols es none)) (hset hr id (.vols es none)) (fun e he => ?_) (fun i hi => ?_) H1
   · obtain ⟨es', al', q1, q2⟩ := hq e (List.mem_cons_of_mem _ he)
     rw [hget_hset]
     by_cases hid : id = e.1
     · rw [if_pos hid]
       rw [← hid, h1] at q1
       injection q1 with q1
       subst q1
       exact ⟨es, none, rfl, q2⟩
     · rw [if_neg hid]; exact ⟨es', al', q1, q2⟩
   · rw [hget_hset] at hi ⊢
     rw [hget_hset]
     by_cases hid : id = i
     · rw [if_pos hid, if_pos hid]
     · rw [if_neg hid] at hi ⊢; rw [if_neg hid]; exact hle i hi
theorem evCall'_sound (hK : KOk E) {nid : Nat} {g : FuncId} {raw cap : List AV} {x : AV} {effs : Eff} {need : List Prop} (he : evCall' E g raw cap hr nid = some (x, effs, need)) (hn : ∀ p ∈ need, p) (H : SimH B w0 M0 h w ρ M)
  (hle : ∀ id, hget hr id ≠ .dead → hget h id = hget hr id) (hfr : ∀ p ∈ effs, nid ≤ p.1 → ρ p.1 = none) {us cvs : List Value} (hraw : repL ρ M noG raw us) (hcap : repL ρ M noG cap cvs) :
  (∀ (vs : Array Value) (w : World), (callFunc g vs).run E.P w = .ok (.enter g vs) w) ∧
  Calls E.P g ⟨us ++ cvs⟩ w fun e w' => ∃ v ρ' M', e = .returned v ∧ ρ.only ρ' effs ∧ M.le M' ∧ SimH B w0 M0 (applyEff h effs) w' ρ' M' ∧ rep ρ' M' noG x v := by
 unfold evCall' at he
 split at he
 · rename_i o ho
   injection he with he
   subst he
   exact evCall_sound hK ho hn H hle hfr hraw hcap
 · generalize hrs : restFrom 0 hr = rs at he
   split at he
   · cases he
   · split at he
     case h_2 => cases he
     rename_i x' effs' need' ho
     simp only [Option.some.injEq, Prod.mk.injEq] at he
     obtain ⟨rfl, rfl, rfl⟩ := he
     obtain ⟨H1, hle1⟩ := rests rs h hr (fun e he => by
      rw [← hrs] at he
      obtain ⟨i, es, al, h1, h2, h3⟩ := restFrom_mem hr 0 e he
      refine ⟨es, some al, ?_, h3⟩
      rw [h1, Nat.zero_add]
      simp [hget, h2]) hle H
     obtain ⟨k1, k2⟩ := evCall_sound hK ho hn H1 hle1 (fun p hp => hfr p (List.mem_append_right _ hp)) hraw hcap
     refine ⟨k1, k2.mono ?_⟩
     rintro e w' ⟨v, ρ', M', he, h1, h2, h3, h4⟩
     exact ⟨v, ρ', M', he, Loc.only_more h1 fun e he => List.mem_append_right _ he, h2, by rw [applyEff_append]; exact h3, h4⟩
theorem orV_inv {a b : Option Out} {o : Out} (h : orV a b = some o) : a = some o ∨ b = some o := by
 unfold orV at h
 split at h
 · exact .inl h
 · exact .inr h
theorem evOp_sound (hK : KOk E) {nid : Nat} {o : Oper} {x : AV} {effs : Eff} {need : List Prop} (he : evOp E t hr nid o = some (x, effs, need)) (hn : ∀ p ∈ need, p) (H : SimH B w0 M0 h w ρ M)
  (hle : ∀ id, hget hr id ≠ .dead → hget h id = hget hr id) (hfr : ∀ p ∈ effs, nid ≤ p.1 → ρ p.1 = none) (ht : ∀ i, rep ρ M noG (t.getD i .unk) (a.eval (.tmp i))) :
  Does B w0 M0 E.P o a w h ρ M x effs := by
 obtain ⟨dst, op, ty, pos, after, guard⟩ := o
 have nilCase : ∀ y : Operand, (if isNilc y = true then nilVec E ty nid else pureOut (opd t y)) = some (x, effs, need) → (execOp a.eval { dst := dst, op := op, type := ty, pos := pos, after := after, guard := guard }).run E.P w = .ok (.value (a.eval y)) w →
   Does B w0 M0 E.P { dst := dst, op := op, type := ty, pos := pos, after := after, guard := guard } a w h ρ M x effs := by
  intro y he hrun
  split at he
  · rename_i hnil
    have hy : a.eval y = .slice none 0 0 := by
     unfold isNilc at hnil
     split at hnil
     · rfl
     · cases hnil
    unfold nilVec at he
    split at he
    · split at he
      · rename_i k hk
        simp only [Option.some.injEq, Prod.mk.injEq] at he
        obtain ⟨rfl, rfl, rfl⟩ := he
        have hid := hfr (nid, _) (List.mem_singleton_self _) (Nat.le_refl _)
        obtain ⟨ρ', n1, n2, n3⟩ := new_nil H hid (!E.wr) k
        exact does_value (by rw [hrun, hy]) n1 (Mem.le_refl _) n2 n3
      · obtain ⟨rfl, rfl, _⟩ := pureOut_inv he
        exact does_pure H hrun (by simp only [rep]; exact hy)
    · obtain ⟨rfl, rfl, _⟩ := pureOut_inv he
      exact does_pure H hrun (by simp only [rep]; exact hy)
  · obtain ⟨rfl, rfl, _⟩ := pureOut_inv he
    exact does_pure H hrun (rep_opd ht y)
 cases op <;> simp only [evOp] at he
 case move y => exact nilCase y he rfl
 case assign y => exact nilCase y he rfl
 case alloc e =>
  cases hz : tzero E.P e with
  | none => rw [hz] at he; cases he
  | some z =>
   rw [hz] at he
   simp only [Option.some.injEq] at he
   have plain : (AV.ptr nid 0, [(nid, AObj.cells e z.cells)], ([] : List Prop)) = (x, effs, need) → Does B w0 M0 E.P { dst := dst, op := .alloc e, type := ty, pos := pos, after := after, guard := guard } a w h ρ M x effs := by
    intro he
    simp only [Prod.mk.injEq] at he
    obtain ⟨rfl, rfl, rfl⟩ := he
    have hid := hfr (nid, _) (List.mem_singleton_self _) (Nat.le_refl _)
    obtain ⟨w', hrun, H'⟩ := alloc_new (P := E.P) H hz hid
    exact does_value (by simp only [execOp, Sem.run_bind, hrun, Result.andThen_ok, Sem.run_pure]) (Loc.only_put hid _ _ (List.mem_singleton_self _)) (Mem.le_refl _) H' rep_put_ptr
   unfold evAlloc at he
   split at he
   · rename_i off k _
     split at he
     · rename_i hoff
       simp only [Prod.mk.injEq] at he
       obtain ⟨rfl, rfl, rfl⟩ := he
       have hid := hfr (nid, _) (List.mem_cons_of_mem _ List.mem_cons_self) (Nat.le_refl _)
       have hid1 := hfr (nid + 1, _) List.mem_cons_self (Nat.le_succ _)
       simp only at hid hid1
       obtain ⟨ρ1, n1, n2, n3⟩ := new_nil H hid1 (!E.wr) k
       have hid' : ρ1 nid = none := by rw [n1.2 nid (fun e he => by simp only [List.mem_singleton] at he; subst he; show nid + 1 ≠ nid; omega)]; exact hid
       obtain ⟨w', hrun, H'⟩ := alloc_nil (P := E.P) n2 hz hid' hoff n3
       refine does_value (ρ' := ρ1.put nid (.blk w.heap.size) w.heap.size) (by simp only [execOp, Sem.run_bind, hrun, Result.andThen_ok, Sem.run_pure]) ⟨Loc.le_trans n1.1 (Loc.le_put hid'), fun i hi => ?_⟩ (Mem.le_refl _) H' rep_put_ptr
       have h1 := hi (nid, _) (List.mem_cons_of_mem _ List.mem_cons_self)
       have h2 := hi (nid + 1, _) List.mem_cons_self
       rw [show (ρ1.put nid (.blk w.heap.size) w.heap.size) i = ρ1 i from if_neg fun e => h1 e.symm]
       exact n1.2 i (fun e he => by simp only [List.mem_singleton] at he; subst he; exact h2)
     · exact plain he
   · exact plain he
 case box e y =>
  split at he
  · rename_i h1
    simp only [Option.some.injEq, Prod.mk.injEq] at he
    obtain ⟨rfl, rfl, rfl⟩ := he
    have hid := hfr (nid, _) (List.mem_singleton_self _) (Nat.le_refl _)
    obtain ⟨w', hrun, H'⟩ := box_new (P := E.P) (t := e) H (rep_opd ht y) h1 hid
    exact does_value (by simp only [execOp, Sem.run_bind, hrun, Result.andThen_ok, Sem.run_pure]) (Loc.only_put hid _ _ (List.mem_singleton_self _)) (Mem.le_refl _) H' rep_put_ptr
  · cases he
 case build bt ps =>
  split at he
  · rename_i z pl hz hpl
    split at he
    case isFalse => cases he
    rename_i hones
    split at he
    · rename_i cs hcs
      obtain ⟨rfl, rfl, _⟩ := pureOut_inv he
      unfold tzero at hz
      cases hi : E.P.info? bt with
      | none => rw [hi] at hz; cases hz
      | some i =>
       rw [hi] at hz
       simp only [Option.bind_some] at hz
       cases hzz : i.zero with
       | none => rw [hzz] at hz; cases hz
       | some zv =>
        rw [hzz] at hz
        injection hz with hz
        have hcz := cells_avOf (ρ := ρ) (M := M) zv
        rw [hz] at hcz
        unfold placesOf at hpl
        split at hpl
        · rename_i fs hd
          split at hpl
          · rename_i hall
            injection hpl with hpl
            have hmap : (fs.mapM fun f => do pure (f.offset, ← sizeOf f.type) : Sem (Array (Nat × Nat))).run E.P w = .ok pl.toArray w := by
             subst hpl
             rw [← Array.toArray_toList (xs := fs)]
             rw [List.mapM_toArray]
             simp only [Sem.run_map]
             have : ∀ l : List Field, l.all (fun f => (E.P.info? f.type).isSome) = true → (l.mapM fun f => do pure (f.offset, ← sizeOf f.type) : Sem (List (Nat × Nat))).run E.P w = .ok (l.map fun f => (f.offset, tsize E.P f.type)) w := by
              intro l
              induction l with
              | nil => intro _; simp
              | cons f l ih =>
               intro hl
               simp only [List.all_cons, Bool.and_eq_true] at hl
               simp only [List.mapM_cons, Sem.run_bind, run_sizeOf f.type w hl.1, Result.andThen_ok, Sem.run_pure, ih hl.2, List.map_cons]
             rw [this fs.toList hall]
             simp
            obtain ⟨vs, hfill, hvs⟩ := fill_run (ρ := ρ) (M := M) (ps.toList.map fun p => (p.1, opd t p.2)) (ps.toList.map fun p => (p.1, a.eval p.2)) z zv.cells.toList cs hcs hcz (by simp) (fun j p u h1 h2 => by
             rw [List.getElem?_map] at h1 h2
             cases hj : ps.toList[j]? with
             | none => rw [hj] at h1; cases h1
             | some q =>
              rw [hj] at h1 h2
              simp only [Option.map_some, Option.some.injEq] at h1 h2
              subst h1; subst h2
              refine ⟨rfl, ?_⟩
              exact (one_cellsL (List.all_eq_true.1 hones q (List.mem_of_getElem? hj)) (rep_opd ht q.2)).1)
            refine does_pure H (v := .agg ⟨vs⟩) ?_ (by simp only [rep]; exact ⟨vs, rfl, hvs⟩)
            simp only [execOp, Sem.run_bind, Instr.build, run_zeroValue hi hzz, Result.andThen_ok, run_underlying hd, hmap]
            have hfill' : Instr.fill (fun i => pl.toArray[i]?) zv.cells (ps.map fun x => (x.1, a.eval x.2)).toList = some ⟨vs⟩ := by
             simpa using hfill
            rw [hfill']
            rfl
          · cases hpl
        · cases hpl
    · cases he
  · cases he
 case load lt ad =>
  have hp := rep_opd ht ad
  split at he
  · rename_i id off hv
    rw [hv] at hp
    split at he
    · rename_i ct cs hcs
      obtain ⟨hx, rfl, _⟩ := bindOut_inv he
      obtain ⟨u, hrun, hr⟩ := load_ptr (P := E.P) H (by rw [hle id (by rw [hcs]; simp)]; exact hcs) hx hp
      exact does_pure H (by simp only [execOp, Sem.run_bind, hrun, Result.andThen_ok, Sem.run_pure]) hr
    · cases he
  · rename_i c i off hv
    rw [hv] at hp
    obtain ⟨hx, rfl, _⟩ := bindOut_inv he
    obtain ⟨u, hrun, hr⟩ := load_ep (P := E.P) H hx hp
    exact does_pure H (by simp only [execOp, Sem.run_bind, hrun, Result.andThen_ok, Sem.run_pure]) hr
  · rename_i id esz i off hv
    rw [hv] at hp
    split at he
    · rename_i f c hc
      split at he
      · rename_i he2
        subst he2
        obtain ⟨hx, rfl, _⟩ := bindOut_inv he
        obtain ⟨u, hrun, hr⟩ := load_evp (P := E.P) H (by rw [hle id (by rw [hc]; simp)]; exact hc) hx hp
        exact does_pure H (by simp only [execOp, Sem.run_bind, hrun, Result.andThen_ok, Sem.run_pure]) hr
      · cases he
    · cases he
  · cases he
 case store st ad y =>
  have hp := rep_opd ht ad
  have hy := rep_opd ht y
  split at he
  · rename_i id off hv
    rw [hv] at hp
    split at he
    · rename_i ct cs hcs
      split at he
      · rename_i hc
        simp only [Option.some.injEq, Prod.mk.injEq] at he
        obtain ⟨rfl, rfl, rfl⟩ := he
        obtain ⟨w', hrun, H'⟩ := store_ptr (P := E.P) H (by rw [hle id (by rw [hcs]; simp)]; exact hcs) hp hy hc.1 hc.2.1 hc.2.2.1 hc.2.2.2
        exact does_skip (by simp only [execOp, Sem.run_bind, hrun, Result.andThen_ok, Sem.run_pure]) (Loc.only_refl _ _) (Mem.le_refl _) H'
      · cases he
    · cases he
  · rename_i id esz i off hv
    rw [hv] at hp
    split at he
    · rename_i c hcs
      split at he
      · rename_i hc
        obtain ⟨q1, q2, q3, q4, rfl⟩ := hc
        split at he
        · rename_i z hz
          simp only [Option.some.injEq, Prod.mk.injEq] at he
          obtain ⟨rfl, rfl, rfl⟩ := he
          obtain ⟨w', hrun, H'⟩ := store_evp (P := E.P) H (by rw [hle id (by rw [hcs]; simp)]; exact hcs) hp hy q1 q2 q3 q4 hz
          exact does_skip (by simp only [execOp, Sem.run_bind, hrun, Result.andThen_ok, Sem.run_pure]) (Loc.only_refl _ _) (Mem.le_refl _) H'
        · cases he
      · cases he
    · cases he
  · cases he
 case nilCheck y =>
  have hp := rep_opd ht y
  split at he
  · rename_i id off hv
    rw [hv] at hp
    obtain ⟨rfl, rfl, _⟩ := pureOut_inv he
    have hp' := hp
    simp only [rep] at hp'
    obtain ⟨r, _, hval⟩ := hp'
    exact does_pure H (v := a.eval y) (by simp only [execOp, hval]; rfl) hp
  · rename_i c i off hv
    rw [hv] at hp
    obtain ⟨rfl, rfl, _⟩ := pureOut_inv he
    have hp' := hp
    simp only [rep] at hp'
    obtain ⟨_, _, b, o, hval, _⟩ := hp'
    exact does_pure H (v := a.eval y) (by simp only [execOp, hval]; rfl) hp
  · rename_i id esz i off hv
    rw [hv] at hp
    obtain ⟨rfl, rfl, _⟩ := pureOut_inv he
    have hp' := hp
    simp only [rep] at hp'
    obtain ⟨_, _, _, _, _, _, hval⟩ := hp'
    exact does_pure H (v := a.eval y) (by simp only [execOp, hval]; rfl) hp
  · rename_i f cap hv
    rw [hv] at hp
    obtain ⟨rfl, rfl, _⟩ := pureOut_inv he
    have hp' := hp
    simp only [rep] at hp'
    obtain ⟨vs, hval, _⟩ := hp'
    exact does_pure H (v := a.eval y) (by simp only [execOp, hval]; rfl) hp
  · cases he
 case binOp op xt y z yt =>
  cases hb : evBin E.P op xt (opd t y) (opd t z) with
  | none => rw [hb] at he; cases he
  | some r =>
   rw [hb] at he
   simp only [Option.map_some, Option.some.injEq, Prod.mk.injEq] at he
   obtain ⟨rfl, rfl, rfl⟩ := he
   obtain ⟨u, hrun, hr⟩ := evBin_run (p := y) (q := z) hb hn (rep_opd ht y) (rep_opd ht z) w
   exact does_pure H (by simp only [execOp]; rw [Sem.run_bind, hrun]; rfl) hr
 case unOp op xt y =>
  have hp := rep_opd ht y
  cases op <;> simp only at he
  case not =>
   split at he
   · rename_i b hv
     rw [hv] at hp
     obtain ⟨rfl, rfl, _⟩ := pureOut_inv he
     simp only [rep] at hp
     exact does_pure H (v := .bool (!b)) (by simp only [execOp, hp]; rfl) (by simp [rep])
   · cases he
  case neg =>
   split at he
   · rename_i k n hv
     rw [hv] at hp
     obtain ⟨rfl, rfl, _⟩ := pureOut_inv he
     simp only [rep] at hp
     exact does_pure H (v := .int k (k.wrap (0 - n))) (by simp only [execOp, hp]; rfl) (by simp [rep])
   · cases he
  case xor =>
   split at he
   · rename_i k n hv
     rw [hv] at hp
     obtain ⟨rfl, rfl, _⟩ := pureOut_inv he
     simp only [rep] at hp
     exact does_pure H (v := .int k (bitsI .xor k (if k.signed then -1 else k.max) n)) (by simp only [execOp, hp]; rfl) (by simp [rep])
   · cases he
  all_goals cases he
 case convert src dt y =>
  have hp := rep_opd ht y
  split at he
  · rename_i k0 k q n hs hd hv
    rw [hv] at hp
    obtain ⟨rfl, rfl, _⟩ := pureOut_inv he
    simp only [rep] at hp
    exact does_pure H (v := .int k (k.wrap n)) (by simp only [execOp, hp, Sem.run_bind, convert, run_underlying hs, run_underlying hd, Result.andThen_ok, Conv.intToInt, Sem.run_pure]) (by simp [rep])
  · rename_i s hs hd hv
    rw [hv] at hp
    obtain ⟨rfl, rfl, _⟩ := pureOut_inv he
    simp only [rep] at hp
    exact does_pure H (v := .string s) (by simp only [execOp, hp, Sem.run_bind, convert, run_underlying hs, run_underlying hd, Result.andThen_ok, Sem.run_pure]) (by simp [rep])
  · rename_i e hs hd
    split at he
    · rename_i ns he8 hsrc
      obtain ⟨rfl, rfl, _⟩ := pureOut_inv he
      have hb := run_bytes_str (P := E.P) hs he8 hd (src_reads H hle hsrc hp)
      exact does_pure H (v := .string (bytesStr ns)) (by simp only [execOp, Sem.run_bind, hb, Sem.run_pure, Result.andThen_ok]) (by simp [rep])
    · cases he
  · cases he
 case makeFunc fn first cap =>
  cases fn <;> simp only at he
  case func f =>
   split at he
   · rename_i h0
     obtain ⟨rfl, rfl, _⟩ := pureOut_inv he
     have hf : first = #[] := by simpa using h0
     subst hf
     refine does_pure H (v := .func (.func f) #[] ⟨cap.toList.map a.eval⟩) ?_ (by simp only [rep]; exact ⟨_, rfl, repL_opd ht _⟩)
     have hm : cap.map a.eval = ⟨cap.toList.map a.eval⟩ := by apply Array.ext'; simp
     simp only [execOp, Instr.makeFunc, Sem.run_bind, Sem.run_pure, Result.andThen_ok, hm]
     simp
   · cases he
  all_goals cases he
 case makeInterface mt y =>
  have hp := rep_opd ht y
  split at he
  · cases he
  · rename_i d hni hd
    obtain ⟨rfl, rfl, _⟩ := pureOut_inv he
    refine does_pure H (v := .iface mt (a.eval y)) ?_ (by simp only [rep]; exact ⟨_, rfl, hp⟩)
    simp only [execOp, Instr.makeInterface, Sem.run_bind, run_underlying hd, Result.andThen_ok]
    cases d <;> first | rfl | exact absurd hd (hni _)
  · cases he
 case fieldAddr s y f =>
  have hp := rep_opd ht y
  split at he
  · rename_i off ft hf
    split at he
    · cases he
    · rename_i hz
      split at he
      · rename_i id o hv
        rw [hv] at hp
        obtain ⟨rfl, rfl, _⟩ := pureOut_inv he
        obtain ⟨u, hrun, hr⟩ := fieldAddr_rep (P := E.P) (w := w) hf hz hp
        exact does_pure H (by simp only [execOp, Sem.run_bind, hrun, Result.andThen_ok, Sem.run_pure]) hr
      · rename_i c i o hv
        rw [hv] at hp
        split at he
        · rename_i hle'
          obtain ⟨rfl, rfl, _⟩ := pureOut_inv he
          obtain ⟨u, hrun, hr⟩ := fieldAddr_ep (P := E.P) (w := w) hf hz hle' hp
          exact does_pure H (by simp only [execOp, Sem.run_bind, hrun, Result.andThen_ok, Sem.run_pure]) hr
        · cases he
      · rename_i id esz i o hv
        rw [hv] at hp
        split at he
        · rename_i hle'
          obtain ⟨rfl, rfl, _⟩ := pureOut_inv he
          obtain ⟨u, hrun, hr⟩ := fieldAddr_evp (P := E.P) (w := w) hf hz hle' hp
          exact does_pure H (by simp only [execOp, Sem.run_bind, hrun, Result.andThen_ok, Sem.run_pure]) hr
        · cases he
      · cases he
  · cases he
 case indexAddr it y ix =>
  split at he
  · rename_i e c k i hu hv hix
    have hp := repC_vec H hle (rep_opd ht y)
    rw [hv] at hp
    have hi := rep_opd ht ix
    rw [hix] at hi
    simp only [rep] at hi
    split at he
    · rename_i hc
      simp only [Option.some.injEq, Prod.mk.injEq] at he
      obtain ⟨rfl, rfl, rfl⟩ := he
      obtain ⟨u, hrun, hr⟩ := indexAddr_coll (P := E.P) (w := w) (k := k) hu hc.1 hc.2 (hn _ (List.mem_singleton_self _)).1 (hn _ (List.mem_singleton_self _)).2 hp
      exact does_pure H (by simp only [execOp, hi, Sem.run_bind, hrun, Result.andThen_ok, Sem.run_pure]) hr
    · cases he
  · rename_i e id k i hu hv hix
    have hp := repC_vec H hle (rep_opd ht y)
    rw [hv] at hp
    have hi := rep_opd ht ix
    rw [hix] at hi
    simp only [rep] at hi
    split at he
    · rename_i f c hcs
      split at he
      · rename_i hc
        simp only [Option.some.injEq, Prod.mk.injEq] at he
        obtain ⟨rfl, rfl, rfl⟩ := he
        obtain ⟨u, hrun, hr⟩ := indexAddr_vec (P := E.P) (w := w) (k := k) H (by rw [hle id (by rw [hcs]; simp)]; exact hcs) hu hc.1 hc.2 (hn _ (List.mem_singleton_self _)).1 (hn _ (List.mem_singleton_self _)).2 hp
        exact does_pure H (by simp only [execOp, hi, Sem.run_bind, hrun, Result.andThen_ok, Sem.run_pure]) hr
      · cases he
    · cases he
  · rename_i m e id o k i hu hv hix
    have hp := repC_vec H hle (rep_opd ht y)
    rw [hv] at hp
    have hi := rep_opd ht ix
    rw [hix] at hi
    simp only [rep] at hi
    split at he
    · rename_i hc
      simp only [Option.some.injEq, Prod.mk.injEq] at he
      obtain ⟨rfl, rfl, rfl⟩ := he
      obtain ⟨u, hrun, hr⟩ := indexAddr_arr (P := E.P) (w := w) (k := k) hu hc (hn _ (List.mem_singleton_self _)).1 (hn _ (List.mem_singleton_self _)).2 hp
      exact does_pure H (by simp only [execOp, hi, Sem.run_bind, hrun, Result.andThen_ok, Sem.run_pure]) hr
    · cases he
  · cases he
 case index it y ix =>
  split at he
  · rename_i s k i hu hv hix
    have hp := rep_opd ht y
    rw [hv] at hp
    have hi := rep_opd ht ix
    rw [hix] at hi
    simp only [rep] at hi hp
    simp only [Option.some.injEq, Prod.mk.injEq] at he
    obtain ⟨rfl, rfl, rfl⟩ := he
    exact does_pure H (v := .int .u8 (byteAt s i)) (by simp only [execOp, hi, hp, Sem.run_bind, run_index_string hu (hn _ (List.mem_singleton_self _)).1 (hn _ (List.mem_singleton_self _)).2, Result.andThen_ok, Sem.run_pure]) (by simp [rep])
  · cases he
 case extract y ix =>
  have hp := rep_opd ht y
  split at he
  · rename_i vs hv
    rw [hv] at hp
    obtain ⟨hx, rfl, _⟩ := bindOut_inv he
    simp only [rep] at hp
    obtain ⟨us, hval, hus⟩ := hp
    obtain ⟨u, hu, hr⟩ := repL_get hus ix _ hx
    exact does_pure H (v := u) (by simp only [execOp, hval, Sem.run_bind, Instr.extract]; simp [hu]) hr
  · rename_i b i r hv
    rw [hv] at hp
    simp only [rep] at hp
    split at he
    · obtain ⟨rfl, rfl, _⟩ := pureOut_inv he
      refine does_pure H (v := .bool b) ?_ (by simp [rep])
      cases b <;> simp [execOp, hp, Instr.extract]
    · simp only [Option.some.injEq, Prod.mk.injEq] at he
      obtain ⟨rfl, rfl, rfl⟩ := he
      have hb : b = true := hn _ (List.mem_singleton_self _)
      subst hb
      exact does_pure H (v := .int .i64 i) (by simp [execOp, hp, Instr.extract]) (by simp [rep])
    · simp only [Option.some.injEq, Prod.mk.injEq] at he
      obtain ⟨rfl, rfl, rfl⟩ := he
      have hb : b = true := hn _ (List.mem_singleton_self _)
      subst hb
      exact does_pure H (v := .int .i32 r) (by simp [execOp, hp, Instr.extract]) (by simp [rep])
    · cases he
  · cases he
 case range xt y =>
  have hp := rep_opd ht y
  split at he
  · rename_i s hu hv
    rw [hv] at hp
    simp only [rep] at hp
    simp only [Option.some.injEq, Prod.mk.injEq] at he
    obtain ⟨rfl, rfl, rfl⟩ := he
    have hid := hfr (nid, _) (List.mem_singleton_self _) (Nat.le_refl _)
    exact does_value (by simp only [execOp, hp, Sem.run_bind, run_range_string w xt s hu, Result.andThen_ok, Sem.run_pure]) (Loc.only_put hid _ _ (List.mem_singleton_self _)) (Mem.le_refl _) (SimH.allocIter H nid hid s) rep_put_ptr
  · cases he
 case next it isS =>
  cases isS
  · cases he
  simp only at he
  unfold evNext at he
  have hp := rep_opd ht it
  split at he
  · rename_i id off hv
    rw [hv] at hp
    split at he
    · rename_i hoff
      subst hoff
      split at he
      · rename_i s pos hs
        simp only [Option.some.injEq, Prod.mk.injEq] at he
        obtain ⟨rfl, rfl, rfl⟩ := he
        obtain ⟨v, w', hrun, hv', H'⟩ := next_run (P := E.P) H (by rw [hle id (by rw [hs]; simp)]; exact hs) hp ty
        exact does_value (by simp only [execOp, Sem.run_bind, hrun, Result.andThen_ok, Sem.run_pure]) (Loc.only_refl _ _) (Mem.le_refl _) H' hv'
      · cases he
    · cases he
  · cases he
 case field s y f =>
  have hp := rep_opd ht y
  split at he
  · rename_i off ft cs hf hv
    rw [hv] at hp
    obtain ⟨hx, rfl, _⟩ := bindOut_inv he
    simp only [rep] at hp
    obtain ⟨us, hval, hus⟩ := hp
    unfold fieldOff at hf
    split at hf
    · rename_i fs hd
      cases hfs : fs[f]? with
      | none => rw [hfs] at hf; cases hf
      | some fd =>
       rw [hfs] at hf
       simp only [Option.map_some, Option.some.injEq, Prod.mk.injEq] at hf
       obtain ⟨rfl, rfl⟩ := hf
       have hx' := hx
       unfold loadFrom at hx
       split at hx
       case isFalse => cases hx
       rename_i hui
       obtain ⟨hu, hi⟩ : (E.P.underlying fd.type).isSome = true ∧ (E.P.info? fd.type).isSome = true := by simpa using hui
       by_cases hg : tagg E.P fd.type = true
       · rw [if_pos hg] at hx
         split at hx
         · injection hx with hx
           subst hx
           refine does_pure H (v := .agg ⟨(us.drop fd.offset).take (tsize E.P fd.type)⟩) ?_ (by simp only [rep]; exact ⟨_, rfl, repL_take _ (repL_drop _ hus)⟩)
           have hpart := run_part (P := E.P) fd.type us fd.offset w hu (fun _ => hi) (fun hf => by rw [hg] at hf; cases hf)
           simp only [valOf, hg, if_true] at hpart
           simp only [execOp, hval, Instr.field, Sem.run_bind, run_underlying hd, Result.andThen_ok, hfs, asAgg, Sem.run_pure, hpart]
         · cases hx
       · have hg' : tagg E.P fd.type = false := by simpa using hg
         rw [if_neg hg] at hx
         obtain ⟨u, hu', hr⟩ := repL_get hus _ _ hx
         have hget : (⟨us⟩ : Array Value)[fd.offset]? = some u := by simpa using hu'
         refine does_pure H (v := u) ?_ hr
         simp only [execOp, hval, Instr.field, Sem.run_bind, run_underlying hd, Result.andThen_ok, hfs, asAgg, Sem.run_pure, part, run_isAgg fd.type w hu, hg', Bool.false_eq_true, if_false, hget]
    · cases hf
  · cases he
 case call c =>
  split at he
  ·
   rename_i hcal
   split at he
   · rename_i lt ax hlt hax
     have hres : (resolve a.eval c ty).run E.P w = .ok { target := .builtin .len c.argTypes ty (c.args.map fun | .const _ => true | _ => false), args := c.args.map a.eval } w := by
      simp only [resolve, hcal]; rfl
     have hargs : (c.args.map a.eval)[0]? = some (a.eval ax) := by simp [hax]
     have hrun : ∀ n : Int, (Builtin.len_ c.argTypes ty (c.args.map a.eval)).run E.P w = .ok (goInt n) w →
       (execOp a.eval { dst := dst, op := .call c, type := ty, pos := pos, after := after, guard := guard }).run E.P w = .ok (.value (.int .i64 n)) w := by
      intro n hn'
      simp only [execOp, Sem.run_bind, hres, Result.andThen_ok, invoke, builtin, hn', Sem.run_pure]
      rfl
     have hp := repC_vec H hle (rep_opd ht ax)
     split at he
     · rename_i s hd hv
       rw [hv] at hp
       obtain ⟨rfl, rfl, _⟩ := pureOut_inv he
       simp only [rep] at hp
       exact does_pure H (hrun s.size (by simp only [Builtin.len_, hlt, hargs, Sem.run_bind, run_underlying hd, Result.andThen_ok, hp]; rfl)) (by simp [rep])
     · rename_i e cc hd hv
       rw [hv] at hp
       obtain ⟨rfl, rfl, _⟩ := pureOut_inv he
       simp only [rep] at hp
       obtain ⟨ad, cap, hval, _⟩ := hp
       exact does_pure H (hrun cc.len (by simp only [Builtin.len_, hlt, hargs, Sem.run_bind, run_underlying hd, Result.andThen_ok, hval]; rfl)) (by simp [rep])
     · rename_i e hd hv
       rw [hv] at hp
       obtain ⟨rfl, rfl, _⟩ := pureOut_inv he
       simp only [rep] at hp
       exact does_pure H (hrun 0 (by simp only [Builtin.len_, hlt, hargs, Sem.run_bind, run_underlying hd, Result.andThen_ok, hp]; rfl)) (by simp [rep])
     · rename_i e id hd hv
       rw [hv] at hp
       split at he
       · rename_i f cc hcs
         obtain ⟨rfl, rfl, _⟩ := pureOut_inv he
         have hobj := H.obj id
         rw [hle id (by rw [hcs]; simp), hcs] at hobj
         obtain ⟨hh, g1, g2⟩ := hobj
         simp only [rep] at hp
         have hp := hp.2
         rw [g1] at hp
         injection hp with hp
         injection hp with hp
         have hval : ∃ ad cap, a.eval ax = .slice ad cc.len cap := by
          rcases g2 with ⟨g2, g3⟩ | ⟨r, cap, vs, tt, g2, _⟩
          · exact ⟨none, 0, by rw [← hp, g2, g3]⟩
          · exact ⟨_, cap, by rw [← hp, g2]⟩
         obtain ⟨ad, cap, hval⟩ := hval
         exact does_pure H (hrun cc.len (by simp only [Builtin.len_, hlt, hargs, Sem.run_bind, run_underlying hd, Result.andThen_ok, hval]; rfl)) (by simp [rep])
       · cases he
     · rename_i kt et id hd hv
       rw [hv] at hp
       split at he
       · rename_i m hcs
         obtain ⟨rfl, rfl, _⟩ := pureOut_inv he
         obtain ⟨r, es, cl, hval, _, hb, hes⟩ := map_block H (by rw [hle id (by rw [hcs]; simp)]; exact hcs) hp
         have hsz : (es.size : Int) = m.es.length := by
          have key : ∀ {k v : Kind} (xs : List (k.Ty × v.Ty)) (es : List MapEntry), repEs M k v xs es → es.length = xs.length := by
           intro k v xs
           induction xs with
           | nil => intro es h; cases es <;> simp [repEs] at h ⊢
           | cons x xs ih => intro es h; cases es <;> simp only [repEs] at h; simp [ih _ h.2.2]
          have := key _ _ hes
          have h' : es.size = m.es.length := by simpa using this
          omega
         exact does_pure H (hrun m.es.length (by simp only [Builtin.len_, hlt, hargs, Sem.run_bind, run_underlying hd, Result.andThen_ok, hval, run_getMap hb]; rw [← hsz]; rfl)) (by simp [rep])
       · rename_i es al hcs
         obtain ⟨rfl, rfl, _⟩ := pureOut_inv he
         obtain ⟨r, ents, clock, xs, hval, h1, h2, hb, h4, hst, h5, _⟩ := vols_ref H ((hle id (by rw [hcs]; simp)).trans hcs) hp
         have hsz : (ents.size : Int) = es.length := by
          have h6 := repEs_length h4
          have h7 := inVs_length h5
          have h8 : xs.length = ents.size := by simpa using h6
          omega
         exact does_pure H (hrun es.length (by simp only [Builtin.len_, hlt, hargs, Sem.run_bind, run_underlying hd, Result.andThen_ok, hval, run_getMap hb]; rw [← hsz]; rfl)) (by simp [rep])
       · cases he
     · rename_i kt et hd hv
       rw [hv] at hp
       obtain ⟨rfl, rfl, _⟩ := pureOut_inv he
       simp only [rep] at hp
       exact does_pure H (hrun 0 (by simp only [Builtin.len_, hlt, hargs, Sem.run_bind, run_underlying hd, Result.andThen_ok, hp]; rfl)) (by simp [rep])
     · rename_i kt et b id n hd hv
       rw [hv] at hp
       simp only [evLenV] at he
       split at he
       case h_2 => cases he
       rename_i es k hva
       simp only [Option.some.injEq, Prod.mk.injEq] at he
       obtain ⟨rfl, rfl, rfl⟩ := he
       have hg := volAt_inv hva
       rcases mapq_ref H ((hle id (by rw [hg]; simp)).trans hg) hp (hn _ (List.mem_singleton_self _)) with ⟨hv0, g1⟩ | ⟨r, ents, clock, xs, e, xx, q, en, cl, hv0, h1, h2, h3, h4, hst, h5, h6, h7, g1, g2, g6, g7, g8, hb, g10⟩
       · rw [g1]
         exact does_pure H (hrun 0 (by simp only [Builtin.len_, hlt, hargs, Sem.run_bind, run_underlying hd, Result.andThen_ok, hv0]; rfl)) (by simp [rep])
       · rw [g1]
         have hsz : (en.size : Int) = e.nodes.length := by
          have h6 := repEs_length g10.1
          have h8 : e.nodes.length = en.size := by simpa using h6
          omega
         exact does_pure H (hrun e.nodes.length (by simp only [Builtin.len_, hlt, hargs, Sem.run_bind, run_underlying hd, Result.andThen_ok, hv0, run_getMap hb]; rw [← hsz]; rfl)) (by simp [rep])
     · cases he
   · cases he
  ·
   rename_i hcal
   split at he
   · rename_i k x k' y hxs
     split at he
     · rename_i hkk
       subst hkk
       obtain ⟨rfl, rfl, _⟩ := pureOut_inv he
       have hr := repL_opd ht c.args.toList
       rw [hxs] at hr
       have hvs : c.args.toList.map a.eval = [.int k x, .int k y] := by
        match hm : c.args.toList.map a.eval, hr with
        | [u, v], hr => simp only [repL, rep, and_true] at hr; rw [hr.1, hr.2]
        | [], hr => simp [repL] at hr
        | [_], hr => simp [repL] at hr
        | _ :: _ :: _ :: _, hr => simp [repL] at hr
       refine does_pure H (v := .int k (if y > x then y else x)) ?_ (by simp [rep])
       have hres : (resolve a.eval c ty).run E.P w = .ok { target := .builtin .max c.argTypes ty (c.args.map fun | .const _ => true | _ => false), args := c.args.map a.eval } w := by
        simp only [resolve, hcal]; rfl
       simp only [execOp, Sem.run_bind, hres, Result.andThen_ok, invoke, builtin, Builtin.max_, Array.toList_map, hvs, List.foldlM_cons, List.foldlM_nil, Builtin.max2, Sem.run_pure]
     · cases he
   · cases he
  ·
   rename_i hcal
   split at he
   · rename_i k x k' y hxs
     split at he
     · rename_i hkk
       subst hkk
       obtain ⟨rfl, rfl, _⟩ := pureOut_inv he
       have hr := repL_opd ht c.args.toList
       rw [hxs] at hr
       have hvs : c.args.toList.map a.eval = [.int k x, .int k y] := by
        match hm : c.args.toList.map a.eval, hr with
        | [u, v], hr => simp only [repL, rep, and_true] at hr; rw [hr.1, hr.2]
        | [], hr => simp [repL] at hr
        | [_], hr => simp [repL] at hr
        | _ :: _ :: _ :: _, hr => simp [repL] at hr
       refine does_pure H (v := .int k (if y < x then y else x)) ?_ (by simp [rep])
       have hres : (resolve a.eval c ty).run E.P w = .ok { target := .builtin .min c.argTypes ty (c.args.map fun | .const _ => true | _ => false), args := c.args.map a.eval } w := by
        simp only [resolve, hcal]; rfl
       simp only [execOp, Sem.run_bind, hres, Result.andThen_ok, invoke, builtin, Builtin.min_, Array.toList_map, hvs, List.foldlM_cons, List.foldlM_nil, Builtin.min2, Sem.run_pure]
     · cases he
   · cases he
  ·
   rename_i hcal
   split at he
   · rename_i ax ay lty ltx hax hay hlty hltx
     split at he
     case isFalse => cases he
     rename_i hsz
     have hres : (resolve a.eval c ty).run E.P w = .ok { target := .builtin .append c.argTypes ty (c.args.map fun | .const _ => true | _ => false), args := c.args.map a.eval } w := by
      simp only [resolve, hcal]; rfl
     have hargs : c.args.map a.eval = #[a.eval ax, a.eval ay] := by
      apply Array.ext (by simp [hsz.1])
      intro i h1 h2
      simp at h2
      match i, h2 with
      | 0, _ => simp only [Array.getElem_map]; obtain ⟨_, h⟩ := Array.getElem?_eq_some_iff.1 hax; rw [h]; rfl
      | 1, _ => simp only [Array.getElem_map]; obtain ⟨_, h⟩ := Array.getElem?_eq_some_iff.1 hay; rw [h]; rfl
     have htys : c.argTypes = #[lty, ltx] := by
      apply Array.ext (by simp [hsz.2])
      intro i h1 h2
      simp at h2
      match i, h2 with
      | 0, _ => obtain ⟨_, h⟩ := Array.getElem?_eq_some_iff.1 hlty; rw [h]; rfl
      | 1, _ => obtain ⟨_, h⟩ := Array.getElem?_eq_some_iff.1 hltx; rw [h]; rfl
     unfold evAppend at he
     split at he
     · rename_i e hd
       split at he
       · rename_i k hk
         split at he
         case isFalse => cases he
         rename_i hz
         split at he
         · rename_i b f cc d hb hs
           split at he
           · rename_i c' hc'
             split at he
             · rename_i hck
               simp only [Option.some.injEq, Prod.mk.injEq] at he
               obtain ⟨rfl, rfl, rfl⟩ := he
               obtain ⟨i, z, hi, hzz, hzs, _, _⟩ := zero_of (P := E.P) M hz
               have hkk : kindOk E.P e k = true := by
                unfold kindOf at hk
                split at hk
                · split at hk
                  · rename_i hq; injection hk with hk; subst hk; exact hq
                  · cases hk
                · cases hk
               have hesz : cc.esz = k.esz := by simp [Coll.esz, hck.1]
               have hisz : i.size = cc.esz := by
                simp only [kindOk, Bool.and_eq_true, beq_iff_eq] at hkk
                rw [hesz, ← hkk.1.1.1]; simp [tsize, hi]
               have hby : bytesOf E.P e = i.bytes := by simp [bytesOf, hi]
               obtain ⟨hh, _⟩ := base_hdr H hle hb (rep_opd ht ax)
               have hneed := hn _ (List.mem_singleton_self _)
               rw [hby] at hneed
               have hid := hfr (nid, _) (List.mem_append_right _ (List.mem_singleton_self _)) (Nat.le_refl _)
               obtain ⟨v', w', ρ', M', hrun, r1, r2, r3, r4⟩ := run_append_vec (P := E.P) (ty := ty) H hd hi hzz hc' hisz (by rw [hzs, hesz]) hh (src_any H hle hs (rep_opd ht ay)) hneed.1 hneed.2 nid hid
               exact does_value (by simp only [execOp, Sem.run_bind, hres, Result.andThen_ok, invoke, builtin, hargs, htys, hrun, Sem.run_pure]) r1 r2 r3 r4
             · cases he
           · cases he
         · cases he
       · cases he
     · cases he
   · cases he
  ·
   rename_i hcal
   split at he
   · rename_i ax ay lty hax hay hlty
     have hres : (resolve a.eval c ty).run E.P w = .ok { target := .builtin .delete c.argTypes ty (c.args.map fun | .const _ => true | _ => false), args := c.args.map a.eval } w := by
      simp only [resolve, hcal]; rfl
     rcases orV_inv he with he | he
     case inr =>
      obtain ⟨rfl, w', hrun, H'⟩ := evDeleteV_sound he hn H hle ht c.argTypes hlty ty (c.args.map a.eval) (by simp [hax]) (by simp [hay])
      exact does_value (v := .tuple #[]) (by simp only [execOp, Sem.run_bind, hres, Result.andThen_ok, invoke, builtin, hrun, Sem.run_pure]) (Loc.only_refl _ _) (Mem.le_refl _) H' (by simp only [rep]; exact ⟨[], rfl, by simp [repL]⟩)
     unfold evDelete at he
     split at he
     · rename_i kt et id hd hv
       split at he
       · rename_i m hm
         split at he
         case isFalse => cases he
         rename_i hko
         split at he
         · rename_i key hkey
           simp only [Option.some.injEq, Prod.mk.injEq] at he
           obtain ⟨rfl, rfl, rfl⟩ := he
           have hp := rep_opd ht ax
           rw [hv] at hp
           obtain ⟨w', hrun, H'⟩ := delete_run (P := E.P) H (by rw [hle id (by rw [hm]; simp)]; exact hm) hd hko hp (decV_rep hkey (rep_opd ht ay)) c.argTypes hlty ty (c.args.map a.eval) (by simp [hax]) (by simp [hay])
           exact does_value (v := .tuple #[]) (by simp only [execOp, Sem.run_bind, hres, Result.andThen_ok, invoke, builtin, hrun, Sem.run_pure]) (Loc.only_refl _ _) (Mem.le_refl _) H' (by simp only [rep]; exact ⟨[], rfl, by simp [repL]⟩)
         · cases he
       · cases he
     · cases he
   · cases he
  ·
   rename_i f hcal
   split at he
   · rename_i g cap hg
     have hp := rep_opd ht f
     rw [hg] at hp
     simp only [rep] at hp
     obtain ⟨cvs, hval, hcvs⟩ := hp
     obtain ⟨henter, hs⟩ := evCall'_sound hK he hn H hle hfr (repL_opd ht c.args.toList) hcvs
     intro next Q hnext
     have hexec : (execOp a.eval { dst := dst, op := .call c, type := ty, pos := pos, after := after, guard := guard }).run E.P w = .ok (.enter g ⟨c.args.toList.map a.eval ++ cvs⟩) w := by
      have hres : (resolve a.eval c ty).run E.P w = .ok { target := .fn (.func g) ⟨cvs⟩, args := c.args.map a.eval } w := by
       simp only [resolve, hcal, hval, Deferred.ofValue]
       simp
      have harr : (c.args.map a.eval ++ (⟨cvs⟩ : Array Value)) = ⟨c.args.toList.map a.eval ++ cvs⟩ := by apply Array.ext'; simp
      simp only [execOp, Sem.run_bind, hres, Result.andThen_ok, invoke, harr]
      exact henter _ _
     unfold Oper.wp
     rw [hexec]
     refine hs.mono fun e w' hpost => ?_
     obtain ⟨v, ρ', M', rfl, h1, h2, h3, h4⟩ := hpost
     exact hnext v w' ρ' M' h1 h2 h3 h4
   · cases he
  · cases he
 case buildSlice bt len ps =>
  unfold evBuildSlice at he
  split at he
  · rename_i e hd
    split at he
    · rename_i k hk
      split at he
      · rename_i xs hxs
        split at he
        · rename_i hc
          simp only [Option.some.injEq, Prod.mk.injEq] at he
          obtain ⟨rfl, rfl, rfl⟩ := he
          have hkk : kindOk E.P e k = true := by
           unfold kindOf at hk
           split at hk
           · split at hk
             · rename_i hq; injection hk with hk; subst hk; exact hq
             · cases hk
           · cases hk
          have hid := hfr (nid, _) (List.mem_singleton_self _) (Nat.le_refl _)
          obtain ⟨v, w', ρ', M', hrun, r1, r2, r3, r4⟩ := buildSlice_new (P := E.P) H ht hd hkk hc.2.2 hxs hc.1 hc.2.1 hid
          have hps : ps.map (fun x => (x.1, a.eval x.2)) = ⟨ps.toList.map fun p => (p.1, a.eval p.2)⟩ := by apply Array.ext'; simp
          exact does_value (by simp only [execOp, Sem.run_bind]; rw [hps, hrun]; rfl) r1 r2 r3 r4
        · cases he
      · cases he
    · cases he
  · cases he
 case makeSlice mt l cp =>
  unfold evMakeSlice at he
  split at he
  · rename_i e k1 l1 k2 c2 hd hl hcp
    split at he
    · rename_i k hk
      split at he
      · rename_i hz
        simp only [Option.some.injEq, Prod.mk.injEq] at he
        obtain ⟨rfl, rfl, rfl⟩ := he
        have hkk : kindOk E.P e k = true := by
         unfold kindOf at hk
         split at hk
         · split at hk
           · rename_i hq; injection hk with hk; subst hk; exact hq
           · cases hk
         · cases hk
        have h1 := rep_opd ht l
        have h2 := rep_opd ht cp
        rw [hl] at h1
        rw [hcp] at h2
        simp only [rep] at h1 h2
        have hneed := hn _ (List.mem_singleton_self _)
        have hid := hfr (nid, _) (List.mem_singleton_self _) (Nat.le_refl _)
        obtain ⟨v, w', ρ', M', hrun, r1, r2, r3, r4⟩ := makeSlice_new (P := E.P) (kl := k1) (kc := k2) H hd hkk hz hneed.1 hneed.2.1 hneed.2.2.1 hneed.2.2.2 (!E.wr) hid
        exact does_value (by simp only [execOp, Sem.run_bind, h1, h2, hrun, Result.andThen_ok, Sem.run_pure]) r1 r2 r3 r4
      · cases he
    · cases he
  · cases he
 case slice st y lo hi mx =>
  cases mx with
  | some m => cases he
  | none =>
  simp only at he
  unfold evSlice at he
  have hp := repC_vec H hle (rep_opd ht y)
  split at he
  · rename_i s hd hv
    rw [hv] at hp
    split at he
    · rename_i l r hl hr'
      simp only [Option.some.injEq, Prod.mk.injEq] at he
      obtain ⟨rfl, rfl, rfl⟩ := he
      have hneed := hn _ (List.mem_singleton_self _)
      simp only [rep] at hp
      exact does_pure H (v := .string (s.extract l.toNat r.toNat)) (by simp only [execOp, Sem.run_bind, hp, Option.map_none, slice_string (M := M) (ρ := ρ) ht hd hl hr' hneed.1 hneed.2.1 hneed.2.2 w, Result.andThen_ok, Sem.run_pure]) (by simp [rep])
    · cases he
  · rename_i e c hd hv
    rw [hv] at hp
    split at he
    · rename_i l r hl hr'
      split at he
      · rename_i hc
        simp only [Option.some.injEq, Prod.mk.injEq] at he
        obtain ⟨rfl, rfl, rfl⟩ := he
        have hneed := hn _ (List.mem_singleton_self _)
        obtain ⟨u, hrun, hru⟩ := slice_coll (P := E.P) ht hd hc.1 hc.2 hl hr' hneed.1 hneed.2.1 hneed.2.2 hp w
        exact does_pure H (by simp only [execOp, Sem.run_bind, Option.map_none, hrun, Result.andThen_ok, Sem.run_pure]) hru
      · cases he
    · cases he
  · rename_i e id hd hv
    rw [hv] at hp
    split at he
    · rename_i f c hcs
      split at he
      · rename_i l r hl hr'
        split at he
        · rename_i hc
          simp only [Option.some.injEq, Prod.mk.injEq] at he
          obtain ⟨rfl, rfl, rfl⟩ := he
          have hneed := hn _ (List.mem_singleton_self _)
          obtain ⟨u, hrun, hru⟩ := slice_vec (P := E.P) H ht (by rw [hle id (by rw [hcs]; simp)]; exact hcs) hd hc.1 hc.2 hl hr' hneed.1 hneed.2.1 hneed.2.2 hp
          exact does_pure H (by simp only [execOp, Sem.run_bind, Option.map_none, hrun, Result.andThen_ok, Sem.run_pure]) hru
        · cases he
      · cases he
    · cases he
  · cases he
 case makeMap mt rs =>
  cases rs with
  | some r => cases he
  | none =>
  simp only at he
  rcases orV_inv he with he | he
  case inr =>
   unfold evMakeVols at he
   split at he
   · split at he
     · simp only [Option.some.injEq, Prod.mk.injEq] at he
       obtain ⟨rfl, rfl, rfl⟩ := he
       have hid := hfr (nid, _) (List.mem_singleton_self _) (Nat.le_refl _)
       have Hn := H.allocO nid hid (.vols [] none) (.blk w.heap.size) (.map #[] 0) ⟨w.heap.size, #[], 0, [], by simp [Loc.put], by simp [Loc.put], heap_alloc_new w _, trivial, MapKept.stamped_empty 0, trivial, List.nodup_nil, trivial⟩
       refine does_value (v := .map (some w.heap.size)) ?_ (Loc.only_put hid _ _ (List.mem_singleton_self _)) (Mem.le_refl _) Hn (by simp only [rep]; exact ⟨_, by simp [Loc.put], rfl⟩)
       simp only [execOp, Sem.run_bind, Instr.makeMap, Option.map_none]
       rfl
     · cases he
   · cases he
  unfold evMakeMap at he
  split at he
  · rename_i kt et hd
    split at he
    · rename_i k v hk hv
      simp only [Option.some.injEq, Prod.mk.injEq] at he
      obtain ⟨rfl, rfl, rfl⟩ := he
      have hid := hfr (nid, _) (List.mem_singleton_self _) (Nat.le_refl _)
      have Hn := H.allocO nid hid (.map ⟨k, v, []⟩) (.blk w.heap.size) (.map #[] 0) ⟨w.heap.size, #[], 0, by simp [Loc.put], by simp [Loc.put], heap_alloc_new w _, trivial, MapKept.stamped_empty 0⟩
      refine does_value (v := .map (some w.heap.size)) ?_ (Loc.only_put hid _ _ (List.mem_singleton_self _)) (Mem.le_refl _) Hn (by simp only [rep]; exact ⟨_, by simp [Loc.put], rfl⟩)
      simp only [execOp, Sem.run_bind, Instr.makeMap, Option.map_none]
      rfl
    · cases he
  · cases he
 case lookup lt y ix ok =>
  rcases orV_inv he with he | he
  case inr =>
   obtain ⟨u, ρ', hrun, h1, H', hru⟩ := evLookupV_sound he hn H hle hfr ht
   exact does_value (by simp only [execOp, Sem.run_bind, hrun, Result.andThen_ok, Sem.run_pure]) h1 (Mem.le_refl _) H' hru
  unfold evLookup at he
  have hp := rep_opd ht y
  split at he
  · rename_i kt et id hd hv
    rw [hv] at hp
    split at he
    · rename_i m hm
      split at he
      case isFalse => cases he
      rename_i hc
      split at he
      · rename_i key hkey
        obtain ⟨rfl, rfl, _⟩ := pureOut_inv he
        obtain ⟨u, hrun, hru⟩ := lookup_run (P := E.P) H (by rw [hle id (by rw [hm]; simp)]; exact hm) hd hc.1 hc.2.2 hp (decV_rep hkey (rep_opd ht ix)) ok
        exact does_pure H (by simp only [execOp, Sem.run_bind, hrun, Result.andThen_ok, Sem.run_pure]) hru
      · cases he
    · cases he
  · cases he
 case mapUpdate lt y ix z =>
  rcases orV_inv he with he | he
  case inr =>
   obtain ⟨rfl, w', ρ', hrun, h1, H'⟩ := evUpdateV_sound he hn H hle ht
   exact does_skip (by simp only [execOp, Sem.run_bind, hrun, Result.andThen_ok, Sem.run_pure]) h1 (Mem.le_refl _) H'
  unfold evUpdate at he
  have hp := rep_opd ht y
  split at he
  · rename_i kt et id hd hv
    rw [hv] at hp
    split at he
    · rename_i m hm
      split at he
      case isFalse => cases he
      rename_i hc
      split at he
      · rename_i key val hkey hval
        simp only [Option.some.injEq, Prod.mk.injEq] at he
        obtain ⟨rfl, rfl, rfl⟩ := he
        obtain ⟨w', hrun, H'⟩ := mapUpdate_run (P := E.P) H (by rw [hle id (by rw [hm]; simp)]; exact hm) hd hc hp (decV_rep hkey (rep_opd ht ix)) (decV_rep hval (rep_opd ht z))
        exact does_skip (by simp only [execOp, Sem.run_bind, hrun, Result.andThen_ok, Sem.run_pure]) (Loc.only_refl _ _) (Mem.le_refl _) H'
      · cases he
    · cases he
  · cases he
 case insert lt y ix z =>
  rcases orV_inv he with he | he
  case inr =>
   obtain ⟨rfl, w', ρ', hrun, h1, H'⟩ := evUpdateV_sound he hn H hle ht
   exact does_skip (by simp only [execOp, Sem.run_bind, hrun, Result.andThen_ok, Sem.run_pure]) h1 (Mem.le_refl _) H'
  unfold evUpdate at he
  have hp := rep_opd ht y
  split at he
  · rename_i kt et id hd hv
    rw [hv] at hp
    split at he
    · rename_i m hm
      split at he
      case isFalse => cases he
      rename_i hc
      split at he
      · rename_i key val hkey hval
        simp only [Option.some.injEq, Prod.mk.injEq] at he
        obtain ⟨rfl, rfl, rfl⟩ := he
        obtain ⟨w', hrun, H'⟩ := mapUpdate_run (P := E.P) H (by rw [hle id (by rw [hm]; simp)]; exact hm) hd hc hp (decV_rep hkey (rep_opd ht ix)) (decV_rep hval (rep_opd ht z))
        exact does_skip (by simp only [execOp, Sem.run_bind, hrun, Result.andThen_ok, Sem.run_pure]) (Loc.only_refl _ _) (Mem.le_refl _) H'
      · cases he
    · cases he
  · cases he
 all_goals cases he
theorem freezeR (raw : List AV) (H : SimH B w0 M0 h w ρ M) (hle : ∀ id, hget hr id ≠ .dead → hget h id = hget hr id) : ∃ M1, M.le M1 ∧ SimH B w0 M0 (applyEff h (frzOf hr raw)) w ρ M1 ∧ ∀ id, hget (applyEff hr (frzOf hr raw)) id ≠ .dead → hget (applyEff h (frzOf hr raw)) id = hget (applyEff hr (frzOf hr raw)) id := by
 have hq1 : ∀ e ∈ frzOf hr raw, ∃ c, hget hr e.1 = .vec false c ∧ e.2 = .vec true c := fun e he => frzOf_mem he
 have hq2 : ∀ e ∈ frzOf hr raw, ∃ f c, hget h e.1 = .vec f c ∧ e.2 = .vec true c := fun e he => by
  obtain ⟨c, q1, q2⟩ := hq1 e he
  exact ⟨false, c, by rw [hle e.1 (by rw [q1]; simp)]; exact q1, q2⟩
 obtain ⟨M1, l1, H1, g1, g2⟩ := freezes hr (frzOf hr raw) h M hq1 hq2 H
 have k1 : ∀ id, (∀ e ∈ frzOf hr raw, e.1 ≠ id) → hget (applyEff hr (frzOf hr raw)) id = hget hr id := by
  have : ∀ (fz : Eff) (h : List AObj) (id : Nat), (∀ e ∈ fz, e.1 ≠ id) → hget (applyEff h fz) id = hget h id := by
   intro fz
   induction fz with
   | nil => intro h id _; rfl
   | cons e fz ih =>
    intro h id hne
    simp only [applyEff, List.foldl_cons]
    have := ih (hset h e.1 e.2) id fun e' he' => hne e' (List.mem_cons_of_mem _ he')
    simp only [applyEff] at this
    rw [this, hget_hset, if_neg (hne e List.mem_cons_self)]
  exact this _ hr
 have k2 : ∀ e ∈ frzOf hr raw, hget (applyEff hr (frzOf hr raw)) e.1 = e.2 := by
  have : ∀ (fz : Eff) (h : List AObj), (∀ e ∈ fz, ∃ c, hget hr e.1 = .vec false c ∧ e.2 = .vec true c) → ∀ e ∈ fz, hget (applyEff h fz) e.1 = e.2 := by
   intro fz
   induction fz with
   | nil => intro h _ e he; cases he
   | cons d fz ih =>
    intro h hq e he
    simp only [applyEff, List.foldl_cons]
    rcases List.mem_cons.1 he with rfl | he
    · by_cases hx : ∃ e' ∈ fz, e'.1 = e.1
      · obtain ⟨e', he', hid⟩ := hx
        have h1 := ih (hset h e.1 e.2) (fun e he => hq e (List.mem_cons_of_mem _ he)) e' he'
        obtain ⟨c1, q1, q2⟩ := hq e List.mem_cons_self
        obtain ⟨c2, q3, q4⟩ := hq e' (List.mem_cons_of_mem _ he')
        rw [hid, q1] at q3
        injection q3 with _ q3
        simp only [applyEff] at h1
        rw [hid] at h1; rw [h1, q4, q2, q3]
      · have : ∀ (fz : Eff) (h : List AObj) (id : Nat), (∀ e ∈ fz, e.1 ≠ id) → hget (applyEff h fz) id = hget h id := by
          intro fz
          induction fz with
          | nil => intro h id _; rfl
          | cons e fz ih =>
           intro h id hne
           simp only [applyEff, List.foldl_cons]
           have := ih (hset h e.1 e.2) id fun e' he' => hne e' (List.mem_cons_of_mem _ he')
           simp only [applyEff] at this
           rw [this, hget_hset, if_neg (hne e List.mem_cons_self)]
        have := this fz (hset h e.1 e.2) e.1 fun e' he' hh => hx ⟨e', he', hh⟩
        simp only [applyEff] at this
        rw [this, hget_hset, if_pos rfl]
    · exact ih _ (fun e he => hq e (List.mem_cons_of_mem _ he)) e he
  exact this _ hr hq1
 have hle1 : ∀ id, hget (applyEff hr (frzOf hr raw)) id ≠ .dead → hget (applyEff h (frzOf hr raw)) id = hget (applyEff hr (frzOf hr raw)) id := by
  intro id hd
  by_cases hx : ∃ e ∈ frzOf hr raw, e.1 = id
  · obtain ⟨e, he, rfl⟩ := hx
    rw [g2 e he, k2 e he]
  · have hne : ∀ e ∈ frzOf hr raw, e.1 ≠ id := fun e he hh => hx ⟨e, he, hh⟩
    rw [g1 id hne, k1 id hne]
    rw [k1 id hne] at hd
    exact hle id hd
 exact ⟨M1, l1, H1, hle1⟩

theorem rep_coerceC (H : SimH B w0 M0 h w ρ M) (hle : ∀ id, hget hr id ≠ .dead → hget h id = hget hr id) {x : AV} {v : Value} (hv : rep ρ M noG x v) : rep ρ M noG (coerceC hr x) v := by
 cases x
 case agg cs =>
  simp only [coerceC, rep] at hv ⊢
  obtain ⟨vs, h1, h2⟩ := hv
  exact ⟨vs, h1, repL_coerce H hle h2⟩
 all_goals exact repC_vec H hle hv
theorem evOpF_sound (hK : KOk E) {nid : Nat} {o : Oper} {x : AV} {effs : Eff} {need : List Prop} (he : evOpF E t hr nid o = some (x, effs, need)) (hn : ∀ p ∈ need, p) (H : SimH B w0 M0 h w ρ M)
  (hle : ∀ id, hget hr id ≠ .dead → hget h id = hget hr id) (hfr : ∀ p ∈ effs, nid ≤ p.1 → ρ p.1 = none) (ht : ∀ i, rep ρ M noG (t.getD i .unk) (a.eval (.tmp i))) :
  Does B w0 M0 E.P o a w h ρ M x effs := by
 unfold evOpF at he
 split at he
 · rename_i r hr'
   injection he with he
   subst he
   exact evOp_sound hK hr' hn H hle hfr ht
 · obtain ⟨M1, l1, H1, hle1⟩ := freezeR (slotCells t o) H hle
   split at he
   · cases he
   · generalize frzOf hr (slotCells t o) = fz at he H1 hle1
     split at he
     case h_2 => cases he
     rename_i x' effs' need' ho
     simp only [Option.some.injEq, Prod.mk.injEq] at he
     obtain ⟨rfl, rfl, rfl⟩ := he
     have := evOp_sound hK ho hn H1 hle1 (fun p hp => hfr p (List.mem_append_right _ hp)) (a := a) (fun i => by
      rw [List.getD_eq_getElem?_getD, List.getElem?_map]
      have := ht i
      rw [List.getD_eq_getElem?_getD] at this
      cases hi : t[i]? with
      | none => simp [rep]
      | some y =>
       rw [hi] at this
       exact rep_coerceC H1 hle1 (rep_mono (Loc.le_refl _) l1 (fun _ _ h => h) _ _ this))
     intro next Q hnext
     exact this next Q fun v w' ρ' M' h1 h2 h3 h4 => hnext v w' ρ' M' (Loc.only_more h1 fun e he => List.mem_append_right _ he) (Mem.le_trans l1 h2) (by rw [applyEff_append]; exact h3) h4
end
end Go.Eng
end
section
namespace Go.Eng
open Go.RowKit (Below)
variable {D : List Deferred}
section
theorem fresh_coll {B : Nat → Prop} {w0 w : World} {M0 M : Mem} {ρ : Loc} {h : List AObj} (H : SimH B w0 M0 h w ρ M) (c : Coll) (vs : List Value) (cap : Nat) (e : TypeId) (hc : c.len ≤ cap) (he : elems M c vs) :
  ∃ M', M.le M' ∧ SimH B w0 M0 h (w.alloc (.cells ⟨vs⟩ e)) ρ M' ∧ rep ρ M' noG (.coll c) (.slice (some ⟨w.heap.size, 0, none⟩) c.len cap) := by
 have hfr : ∀ off, M w.heap.size off = none := fun off => Mem.none_new H (Nat.le_refl _) off
 have hnew : (w.alloc (.cells ⟨vs⟩ e)).heap[w.heap.size]? = some (.cells ⟨vs⟩ e (0, 0)) := heap_alloc_new w _
 have hM : M.le (M.told w.heap.size (c.len * c.esz) vs) := Mem.told_le fun o v _ hv => by rw [hfr o] at hv; cases hv
 refine ⟨_, hM, ?_, ?_⟩
 · refine H.world hM (fun i r _ hr => ⟨Below.heap_alloc w _ r (H.own r i hr).2, fun off hn => ?_⟩) ?_ ?_ ((Keeps.refl _ _).alloc H.size _)
   · unfold Mem.told
     rw [if_neg]
     · exact hn
     · rintro ⟨rfl, _⟩
       exact Nat.lt_irrefl _ (H.own _ i hr).2
   · intro b o v hv
     unfold Mem.told at hv
     split at hv
     · rename_i hq
       obtain ⟨rfl, _⟩ := hq
       rw [cell_of_block hnew]
       exact hv
     · have h1 := H.mem b o v hv
       have hlt := World.block_lt_of_cell? w _ h1
       rw [← h1]
       unfold World.cell?
       rw [Below.heap_alloc w _ b hlt]
   · intro b o hB
     unfold Mem.told
     rw [if_neg]
     rintro ⟨rfl, _⟩
     exact Nat.lt_irrefl _ (H.size _ hB)
 · simp only [rep]
   refine ⟨some ⟨w.heap.size, 0, none⟩, cap, rfl, hc, fun _ => ⟨w.heap.size, 0, rfl, fun i hi j x hx => ?_⟩⟩
   obtain ⟨u, hu, hr⟩ := he i hi j x hx
   have hj := Coll.get_some hx
   refine ⟨u, ?_, ?_⟩
   · have hlt : 0 + i * c.esz + j < c.len * c.esz := by
       have : (i + 1) * c.esz ≤ c.len * c.esz := Nat.mul_le_mul_right _ hi
       rw [Nat.add_mul, Nat.one_mul] at this
       omega
     unfold Mem.told
     rw [if_pos ⟨rfl, hlt⟩, Nat.zero_add]
     exact hu
   · have := repE_mono hM hr
     cases x <;> exact this
def evOpG (E : Env) (t : List AV) (hr : List AObj) (nid : Nat) (o : Oper) : Option Out :=
 match o.op with
 | .buildSlice ty len ps => match E.P.underlying ty with
  | some (.slice e) => match kindOf E e with
   | some k => match decAll k t 0 ps.toList with
    | some xs => if xs.length = len ∧ len * k.esz ≤ 16777216 ∧ zeroOk E.P e k then some (.coll ⟨k, xs⟩, [], []) else none
    | none => none
   | none => none
  | _ => none
 | _ => evOpF E t hr nid o
theorem buildSlice_raw {B : Nat → Prop} {w0 w : World} {M0 M : Mem} {ρ : Loc} {h : List AObj} {P : Program} {t : List AV} {a : Act} (ht : ∀ i, rep ρ M noG (t.getD i .unk) (a.eval (.tmp i))) {ty e : TypeId} {k : Kind} {len : Nat} {ps : List (Nat × Operand)} {xs : List k.Ty} (hu : P.underlying ty = some (.slice e)) (hk : kindOk P e k = true) (hz : zeroOk P e k = true)
  (hd : decAll k t 0 ps = some xs) (hl : xs.length = len) (hlim : len * k.esz ≤ 16777216) (_ : SimH B w0 M0 h w ρ M) :
  ∃ vs, (Instr.buildSlice ty len ⟨ps.map fun p => (p.1, a.eval p.2)⟩).run P w = .ok (.slice (some ⟨w.heap.size, 0, none⟩) xs.length xs.length) (w.alloc (.cells ⟨vs⟩ e)) ∧ elems M ⟨k, xs⟩ vs := by
 obtain ⟨i, z, hi, hzz, hzs, hzx, _⟩ := zero_of (P := P) M hz
 subst hl
 simp only [kindOk, Bool.and_eq_true, beq_iff_eq] at hk
 have hts := hk.1.1.1
 have hisz : i.size = k.esz := by rw [← hts]; simp [tsize, hi]
 have hsz := run_sizeOf (P := P) e w hk.1.1.2
 rw [hts] at hsz
 generalize hzl : ((Array.range (xs.length * k.esz)).map fun m => (if xs.length * k.esz = 0 then #[] else z.cells)[m % (if xs.length * k.esz = 0 then #[] else z.cells).size]!) = za
 have hzal : za.size = xs.length * k.esz := by rw [← hzl]; simp
 obtain ⟨vs, h1, h2, _, h4⟩ := fillRows (M := M) (ρ := ρ) ht ps 0 za.toList xs hd (by simp [hzal])
 simp only [Nat.zero_add] at h4
 refine ⟨vs, ?_, rows_elems h4⟩
 have hlim' : ¬ (16777216 < xs.length * k.esz) := by omega
 have hfill : Instr.fill (fun i => some (i * k.esz, k.esz)) za (ps.map fun p => (p.1, a.eval p.2)) = some ⟨vs⟩ := h1
 by_cases h0 : xs.length * k.esz = 0
 · rw [if_pos h0] at hzl
   simp only [Instr.buildSlice, Sem.run_bind, run_underlying hu, Result.andThen_ok, hsz, Sem.run_ite, Nat.reducePow, gt_iff_lt, h0, if_true, Sem.run_pure]
   rw [h0] at hzl
   simp only [Array.range_zero', Array.map_empty] at hzl ⊢
   rw [hzl, hfill]
   simp [newRow]
 · rw [if_neg h0] at hzl
   simp only [Instr.buildSlice, Sem.run_bind, run_underlying hu, Result.andThen_ok, hsz, Sem.run_ite, Nat.reducePow, gt_iff_lt, hlim', if_false, h0, run_zeroValue hi hzz, Sem.run_pure]
   rw [hzl, hfill]
   simp [newRow]
theorem evOpG_sound {E : Env} {B : Nat → Prop} {w0 w : World} {M0 M : Mem} {ρ : Loc} {a : Act} {h hr : List AObj} {t : List AV} (hK : KOk E) {nid : Nat} {o : Oper} {x : AV} {effs : Eff} {need : List Prop} (he : evOpG E t hr nid o = some (x, effs, need)) (hn : ∀ p ∈ need, p) (H : SimH B w0 M0 h w ρ M)
  (hle : ∀ id, hget hr id ≠ .dead → hget h id = hget hr id) (hfr : ∀ p ∈ effs, nid ≤ p.1 → ρ p.1 = none) (ht : ∀ i, rep ρ M noG (t.getD i .unk) (a.eval (.tmp i))) :
  Does B w0 M0 E.P o a w h ρ M x effs := by
 obtain ⟨dst, op, type, pos, after, guard⟩ := o
 cases op
 case buildSlice bt len ps =>
  simp only [evOpG] at he
  split at he
  · rename_i e hd
    split at he
    · rename_i k hk
      split at he
      · rename_i xs hxs
        split at he
        · rename_i hc
          simp only [Option.some.injEq, Prod.mk.injEq] at he
          obtain ⟨rfl, rfl, rfl⟩ := he
          have hkk : kindOk E.P e k = true := by
           unfold kindOf at hk
           split at hk
           · split at hk
             · rename_i hq; injection hk with hk; subst hk; exact hq
             · cases hk
           · cases hk
          obtain ⟨vs, hrun, hel⟩ := buildSlice_raw (P := E.P) ht hd hkk hc.2.2 hxs hc.1 hc.2.1 H
          obtain ⟨M', r2, r3, r4⟩ := fresh_coll H ⟨k, xs⟩ vs xs.length e (Nat.le_refl _) hel
          have hps : ps.map (fun x => (x.1, a.eval x.2)) = ⟨ps.toList.map fun p => (p.1, a.eval p.2)⟩ := by apply Array.ext'; simp
          exact does_value (by simp only [execOp, Sem.run_bind]; rw [hps, hrun]; rfl) (Loc.only_refl _ _) r2 r3 r4
        · cases he
      · cases he
    · cases he
  · cases he
 all_goals exact evOpF_sound hK he hn H hle hfr ht
end

mutual
def ren (σ : Nat → Nat) : AV → AV
 | .ptr id off => .ptr (σ id) off
 | .evp id e i off => .evp (σ id) e i off
 | .vec id => .vec (σ id)
 | .vsub id e lo hi => .vsub (σ id) e lo hi
 | .map id => .map (σ id)
 | .yld id => .yld (σ id)
 | .mapq b id n => .mapq b (σ id) (σ n)
 | .agg cs => .agg (renL σ cs)
 | .tup cs => .tup (renL σ cs)
 | .fn f cs => .fn f (renL σ cs)
 | .iface t x => .iface t (ren σ x)
 | x => x
def renL (σ : Nat → Nat) : List AV → List AV
 | [] => []
 | x :: xs => ren σ x :: renL σ xs
end
def renO (σ : Nat → Nat) : AObj → AObj
 | .cells t cs => .cells t (renL σ cs)
 | .loop n t pd => .loop n (renL σ t) pd
 | .vols es (some (n, k)) => .vols es (some (σ n, k))
 | .var t p f c => .var t (renL σ p) f c
 | o => o
def sgm (σ : List Nat) (j : Nat) : Nat := σ.getD j j
def likeT : List AV → List AV → List AV
 | p :: ps, x :: xs => (match p with | .unk => .unk | _ => x) :: likeT ps xs
 | [], xs => xs
 | _ :: _, [] => []
def renT (σ : Nat → Nat) : List AV → List AV
 | [] => []
 | x :: xs => ren σ x :: renT σ xs
def push (σ : List Nat) (p : St) : St := ⟨renT (sgm σ) p.t, p.h.map (renO (sgm σ))⟩
def pullH (σ : List Nat) (h : List AObj) : Nat → List AObj → List AObj
 | _, [] => []
 | j, o :: os => (match o with | .dead => .dead | .vols _ none => (hget h (sgm σ j)).rest | _ => hget h (sgm σ j)) :: pullH σ h (j + 1) os
def pull (σ : List Nat) (p s : St) : St := ⟨likeT p.t s.t, pullH σ s.h 0 p.h⟩
inductive Tree where
 | leaf (e : Exit) (s : St)
 | ask (b : Bool) (t f : Tree)
 | need (p : List Prop) (t : Tree)
 | same (p : St) (σ : List Nat) (s : St) (t : Tree)
 | fail
def Tree.bind : Tree → (Exit → St → Tree) → Tree
 | .leaf e s, k => k e s
 | .ask b t f, k => .ask b (t.bind k) (f.bind k)
 | .need p t, k => .need p (t.bind k)
 | .same p σ s t, k => .same p σ s (t.bind k)
 | .fail, _ => .fail
def Tree.All (Q : Exit → St → Prop) : Tree → Prop
 | .leaf e s => Q e s
 | .ask b t f => (b = true → t.All Q) ∧ (b = false → f.All Q)
 | .need p t => (∀ q ∈ p, q) ∧ t.All Q
 | .same p σ s t => pull σ p s = push σ p ∧ t.All Q
 | .fail => False
theorem Tree.All_bind {Q : Exit → St → Prop} {k : Exit → St → Tree} : ∀ {T : Tree}, (T.bind k).All Q → T.All fun e s => (k e s).All Q
 | .leaf _ _, h => h
 | .ask _ _ _, h => ⟨fun hb => Tree.All_bind (h.1 hb), fun hb => Tree.All_bind (h.2 hb)⟩
 | .need _ _, h => ⟨h.1, Tree.All_bind h.2⟩
 | .same _ _ _ _, h => ⟨h.1, Tree.All_bind h.2⟩
 | .fail, h => h


def repS (ρ : Loc) (M : Mem) (G : Nat → Bool → Prop) : AV → Value → Prop
 | .grd j w x, v => (G j w ∧ rep ρ M noG x v) ∨ (¬ G j w ∧ v = undef)
 | x, v => rep ρ M noG x v
theorem repS_mono {ρ ρ' : Loc} {M M' : Mem} {G : Nat → Bool → Prop} (hρ : ρ.le ρ') (hM : M.le M') {x : AV} {v : Value} (h : repS ρ M G x v) : repS ρ' M' G x v := by
 cases x <;> simp only [repS] at h ⊢ <;> first
  | exact rep_mono hρ hM (fun _ _ h => h) _ _ h
  | exact h.imp (fun h => ⟨h.1, rep_mono hρ hM (fun _ _ h => h) _ _ h.2⟩) id

def ungrd (tags : List (Nat × Bool)) : AV → AV
 | .grd j w x => if tags.contains (j, w) then x else .unk
 | x => x
theorem rep_ungrd {ρ : Loc} {M : Mem} {G : Nat → Bool → Prop} {tags : List (Nat × Bool)} (ht : ∀ j w, (j, w) ∈ tags → G j w) {x : AV} {v : Value} (h : repS ρ M G x v) : rep ρ M noG (ungrd tags x) v := by
 cases x
 case grd j w x =>
  simp only [ungrd]
  split
  · rename_i hc
    rcases h with h | h
    · exact h.2
    · exact absurd (ht j w (by simpa using hc)) h.1
  · simp [rep]
 all_goals exact h
def kill (ops : List Oper) (d : Nat) : AV → AV
 | .grd j w x => if (ops[j]?).bind (·.dst) == some d then .unk else .grd j w x
 | x => x
def putS (ops : List Oper) (t : List AV) (dst : Option Tmp) (x : AV) : List AV :=
 match dst with
 | none => t
 | some d => (t.map (kill ops d)).set d x
def tagsOf (ops : List Oper) (t : List AV) : Nat → Nat × Bool → List (Nat × Bool)
 | 0, g => [g]
 | n + 1, (j, w) => (j, w) :: match (ops[j]?).bind (·.dst) with
  | some d => match t.getD d .unk with
   | .grd j2 w2 _ => tagsOf ops t n (j2, w2)
   | _ => []
  | none => []
def condP (ops : List Oper) (t : List AV) : Nat → Nat × Bool → Prop
 | 0, _ => True
 | n + 1, (j, w) => match (ops[j]?).bind (·.dst) with
  | some d => match t.getD d .unk with
   | .bool b => b = w
   | .grd j2 w2 (.bool b) => condP ops t n (j2, w2) ∧ b = w
   | _ => True
  | none => True

def writers (ops : List Oper) (d : Nat) (w : Bool) : List (Nat × Bool) := (ops.zipIdx.filter fun o => o.1.dst == some d).map fun o => (o.2, w)
def decided (ops : List Oper) (tags : List (Nat × Bool)) (d : Nat) : Option Bool := (tags.find? fun g => (ops[g.1]?).bind (·.dst) == some d).map (·.2)
def evPick (ops : List Oper) (t : List AV) (tags : List (Nat × Bool)) (c x y : Operand) : Option AV :=
 match c with
 | .tmp d => match decided ops tags d with
  | some v => some (ungrd tags (opd t (if v then x else y)))
  | none => match ungrd tags (t.getD d .unk) with
   | .bool b => match ungrd (writers ops d true ++ tags) (opd t x), ungrd (writers ops d false ++ tags) (opd t y) with
    | .bool p, .bool q => some (.bool (cond b p q))
    | _, _ => none
   | _ => none
 | _ => none
def isPick : Op → Option (Operand × Operand × Operand)
 | .pick c x y => some (c, x, y)
 | _ => none
def stepR (E : Env) (ops : List Oper) (dt : List (Nat × Bool)) (o : Oper) (s : St) : Option (List Prop × St) :=
 match o.guard with
 | none => match isPick o.op with
  | some (c, x, y) => match evPick ops s.t dt c x y with
   | some z => some ([], ⟨putS ops s.t o.dst (ungrd [] z), s.h⟩)
   | none => none
  | none => match evOpF E (s.t.map (ungrd dt)) s.h s.h.length o with
   | some (x, effs, need) => some (need, ⟨putS ops s.t o.dst (ungrd [] x), applyEff s.h effs⟩)
   | none => none
 | some g => if (ops[g.1]?).bind (·.dst) == o.dst then none else match isPick o.op with
  | some (c, x, y) => match evPick ops s.t (tagsOf ops s.t 8 g ++ dt) c x y with
   | some z => some ([], ⟨putS ops s.t o.dst (.grd g.1 g.2 z), s.h⟩)
   | none => none
  | none => match evOpF E (s.t.map (ungrd (tagsOf ops s.t 8 g ++ dt))) s.h s.h.length o with
   | some (x, [], need) => some (need.map fun p => (condP ops s.t 8 g → p), ⟨putS ops s.t o.dst (.grd g.1 g.2 x), s.h⟩)
   | _ => none
def stepRg (E : Env) (ops : List Oper) (dt : List (Nat × Bool)) (o : Oper) (s : St) : Option (List Prop × St) :=
 match o.guard with
 | none => none
 | some g => if (ops[g.1]?).bind (·.dst) == o.dst then none else match evOpG E (s.t.map (ungrd (tagsOf ops s.t 8 g ++ dt))) s.h s.h.length o with
  | some (x, [], need) => some (need.map fun p => (condP ops s.t 8 g → p), ⟨putS ops s.t o.dst (.grd g.1 g.2 x), s.h⟩)
  | _ => none
def callOf (dt : List (Nat × Bool)) (o : Oper) (s : St) : Option (FuncId × List AV) :=
 match o.op with
 | .call c => match c.callee with
  | .value f => match ungrd dt (opd s.t f) with
   | .fn g cap => some (g, (c.args.toList.map fun x => coerce s.h (ungrd dt (opd s.t x))) ++ cap)
   | _ => none
  | _ => none
 | _ => none
inductive Branch where
 | may (b : Bool) (pv : Value)
 | two (b : Bool) (x y : Out)
def branchy (E : Env) (dt : List (Nat × Bool)) (o : Oper) (s : St) : Option Branch :=
 match callOf dt o s with
 | some (g, args) => match E.KP g args with
  | some (b, pv) => some (.may b pv)
  | none => match E.KB g args s.h s.h.length with
   | some (b, x, y) => some (.two b x y)
   | none => none
 | none => none
def needs : List Prop → Tree → Tree
 | [], t => t
 | p :: ps, t => .need (p :: ps) t
theorem needs_all {ps : List Prop} {t : Tree} {Q : Exit → St → Prop} (h : (needs ps t).All Q) : (∀ p ∈ ps, p) ∧ t.All Q := by
 cases ps with
 | nil => exact ⟨by simp, h⟩
 | cons p ps => exact h
def afterCall (ops : List Oper) (o : Oper) (s : St) (x : Out) : St := ⟨putS ops s.t o.dst (ungrd [] x.1), applyEff s.h x.2.1⟩
def yieldy (E : Env) (dt : List (Nat × Bool)) (o : Oper) (s : St) : Option YB :=
 match o.op with
 | .call c => match c.callee with
  | .value f => match ungrd dt (opd s.t f) with
   | .yld id => E.Y (.yld id :: c.args.toList.map fun x => coerce s.h (ungrd dt (opd s.t x))) s.h s.h.length
   | _ => none
  | _ => none
 | _ => none
def runU (E : Env) (ops : List Oper) (dt : List (Nat × Bool)) (o : Oper) (s : St) (k : St → Tree) : Tree :=
 match branchy E dt o s with
 | some (.may b pv) => .ask b (k ⟨putS ops s.t o.dst (.tup []), s.h⟩) (.leaf (.panic [{ v := pv, recovered := false }]) s)
 | some (.two b x y) => .ask b (needs x.2.2 (k (afterCall ops o s x))) (needs y.2.2 (k (afterCall ops o s y)))
 | none => match yieldy E dt o s with
  | some (.one x) => needs x.2.2 (k (afterCall ops o s x))
  | some (.two b x y) => .ask b (needs x.2.2 (k (afterCall ops o s x))) (needs y.2.2 (k (afterCall ops o s y)))
  | none => match stepR E ops dt { o with guard := none } s with
   | some (ps, s') => needs ps (k s')
   | none => .fail
def keepDt (ops : List Oper) (d : Option Tmp) (dt : List (Nat × Bool)) : List (Nat × Bool) := dt.filter fun g => !((ops[g.1]?).bind (·.dst) == d)
def skipU (ops : List Oper) (o : Oper) (s : St) : St := ⟨putS ops s.t o.dst .unk, s.h⟩
def slotB (ops : List Oper) (t : List AV) (j : Nat) : Option Bool :=
 match (ops[j]?).bind (·.dst) with
 | some d => match t.getD d .unk with
  | .bool b => some b
  | _ => none
 | none => none
def evSeq (E : Env) (ops : List Oper) : List (Nat × Bool) → List Oper → St → Tree
 | _, [], s => .leaf .normal s
 | dt, o :: rest, s => match o.guard with
  | none => runU E ops dt o s (evSeq E ops (keepDt ops o.dst dt) rest)
  | some (j, w) => match dt.lookup j with
   | some v => if v == w then runU E ops dt o s (evSeq E ops (keepDt ops o.dst dt) rest) else evSeq E ops (keepDt ops o.dst dt) rest (skipU ops o s)
   | none => match stepR E ops dt o s with
    | some (ps, s') => needs ps (evSeq E ops (keepDt ops o.dst dt) rest s')
    | none => match slotB ops s.t j with
     | some b => if w then .ask b (runU E ops ((j, true) :: dt) o s (evSeq E ops (keepDt ops o.dst ((j, true) :: dt)) rest)) (evSeq E ops (keepDt ops o.dst ((j, false) :: dt)) rest (skipU ops o s))
       else .ask b (evSeq E ops (keepDt ops o.dst ((j, true) :: dt)) rest (skipU ops o s)) (runU E ops ((j, false) :: dt) o s (evSeq E ops (keepDt ops o.dst ((j, false) :: dt)) rest))
     | none => match stepRg E ops dt o s with
      | some (ps, s') => needs ps (evSeq E ops (keepDt ops o.dst dt) rest s')
      | none => .fail

structure SimT (D : List Deferred) (ρ : Loc) (M : Mem) (G : Nat → Bool → Prop) (t : List AV) (a : Act) : Prop where
 len : t.length = a.tmps.size
 defers : a.defers = D
 at_ : ∀ i, repS ρ M G (t.getD i .unk) (a.tmps.getD i undef)
abbrev yG (ops : Array Oper) (a : Act) : Nat → Bool → Prop := fun j w => yielded ops a.tmps j = some w

theorem getD_put (a : Act) (d : Nat) (v : Value) (i : Nat) : (a.put (some d) v).tmps.getD i undef = if d = i ∧ d < a.tmps.size then v else a.tmps.getD i undef := by
 simp only [Act.put, Array.getD_eq_getD_getElem?, Array.getElem?_setIfInBounds]
 by_cases h : d = i
 · subst h
   by_cases h2 : d < a.tmps.size
   · simp [h2]
   · simp [h2]
 · simp [h]
theorem yielded_put {ops : Array Oper} {a : Act} {d : Nat} {v : Value} {j : Nat} (h : (ops[j]?).bind (·.dst) ≠ some d) : yielded ops (a.put (some d) v).tmps j = yielded ops a.tmps j := by
 unfold yielded
 cases hd : (ops[j]?).bind (·.dst) with
 | none => rfl
 | some e =>
  have hne : d ≠ e := fun he => h (by rw [hd, he])
  simp [Act.put, Array.getElem?_setIfInBounds_ne hne]
theorem map_getD (f : AV → AV) (hf : f .unk = .unk) (t : List AV) (i : Nat) : (t.map f).getD i .unk = f (t.getD i .unk) := by
 simp only [List.getD_eq_getElem?_getD, List.getElem?_map]
 cases t[i]? <;> simp [hf]
theorem set_getD (t : List AV) (d : Nat) (x : AV) (i : Nat) : (t.set d x).getD i .unk = if d = i ∧ d < t.length then x else t.getD i .unk := by
 simp only [List.getD_eq_getElem?_getD, List.getElem?_set]
 by_cases h : d = i
 · subst h
   by_cases h2 : d < t.length
   · simp [h2]
   · simp [h2]
 · simp [h]

theorem SimT.put {ρ ρ' : Loc} {M M' : Mem} {ops : List Oper} {t : List AV} {a : Act} (H : SimT D ρ M (yG ops.toArray a) t a) (hρ : ρ.le ρ') (hM : M.le M') {dst : Option Tmp} {x : AV} {v : Value}
  (hx : repS ρ' M' (yG ops.toArray (a.put dst v)) x v) : SimT D ρ' M' (yG ops.toArray (a.put dst v)) (putS ops t dst x) (a.put dst v) := by
 cases dst with
 | none => exact ⟨H.len, H.defers, fun i => repS_mono hρ hM (H.at_ i)⟩
 | some d =>
  refine ⟨by simp [putS, Act.put, H.len], H.defers, fun i => ?_⟩
  simp only [putS]
  rw [set_getD, getD_put, List.length_map, H.len]
  split
  · exact hx
  · rw [map_getD _ rfl]
    have := repS_mono hρ hM (H.at_ i)
    generalize t.getD i .unk = y at this ⊢
    cases y
    case grd j w y =>
     simp only [kill]
     split
     · simp [repS, rep]
     · rename_i hne
       have hy : yielded ops.toArray (a.put (some d) v).tmps j = yielded ops.toArray a.tmps j := yielded_put (by simpa using hne)
       simp only [repS, yG, hy] at this ⊢
       exact this
    all_goals exact this

section
variable {ρ : Loc} {M : Mem} {ops : List Oper} {t : List AV} {a : Act}
theorem yielded_slot {j : Nat} {w : Bool} (h : yielded ops.toArray a.tmps j = some w) : ∃ d, (ops[j]?).bind (·.dst) = some d ∧ a.tmps.getD d undef = .bool w := by
 unfold yielded at h
 cases hd : ((ops.toArray)[j]?).bind (·.dst) with
 | none => rw [hd] at h; cases h
 | some d =>
  rw [hd] at h
  refine ⟨d, by simpa using hd, ?_⟩
  simp only [Option.bind_some] at h
  rw [Array.getD_eq_getD_getElem?]
  cases hv : a.tmps[d]? with
  | none => rw [hv] at h; cases h
  | some v =>
   rw [hv] at h
   cases v <;> simp at h
   subst h
   rfl
theorem tagsOf_hold (H : SimT D ρ M (yG ops.toArray a) t a) : ∀ (n : Nat) (g : Nat × Bool), yG ops.toArray a g.1 g.2 → ∀ j w, (j, w) ∈ tagsOf ops t n g → yG ops.toArray a j w
 | 0, g, hg, j, w, hm => by simp only [tagsOf, List.mem_singleton] at hm; subst hm; exact hg
 | n + 1, (j0, w0), hg, j, w, hm => by
  simp only [tagsOf, List.mem_cons] at hm
  rcases hm with hm | hm
  · injection hm with h1 h2; subst h1; subst h2; exact hg
  · obtain ⟨d, hd, hv⟩ := yielded_slot hg
    rw [hd] at hm
    simp only [] at hm
    have := H.at_ d
    rw [hv] at this
    split at hm
    · rename_i j2 w2 y hs
      rw [hs] at this
      rcases this with h | h
      · exact tagsOf_hold H n (j2, w2) h.1 j w hm
      · exact absurd h.2 (by simp [undef])
    · cases hm
theorem condP_hold (H : SimT D ρ M (yG ops.toArray a) t a) : ∀ (n : Nat) (g : Nat × Bool), yG ops.toArray a g.1 g.2 → condP ops t n g
 | 0, _, _ => trivial
 | n + 1, (j0, w0), hg => by
  obtain ⟨d, hd, hv⟩ := yielded_slot hg
  simp only [condP, hd]
  have := H.at_ d
  rw [hv] at this
  split
  · rename_i b hs
    rw [hs] at this
    simp only [repS, rep] at this
    injection this with this
    exact this.symm
  · rename_i j2 w2 b hs
    rw [hs] at this
    rcases this with h | h
    · simp only [rep] at h
      have h2 := h.2
      injection h2 with h2
      exact ⟨condP_hold H n (j2, w2) h.1, h2.symm⟩
    · exact absurd h.2 (by simp [undef])
  · trivial
theorem writers_hold {d : Nat} {w : Bool} (hv : a.tmps.getD d undef = .bool w) : ∀ j w', (j, w') ∈ writers ops d w → yG ops.toArray a j w' := by
 intro j w' hm
 unfold writers at hm
 obtain ⟨⟨o, k⟩, ho, he⟩ := List.mem_map.1 hm
 simp only [Prod.mk.injEq] at he
 obtain ⟨rfl, rfl⟩ := he
 obtain ⟨hz, hdst⟩ := List.mem_filter.1 ho
 have hk : ops[k]? = some o := by
  have := List.mem_zipIdx_iff_getElem?.1 hz
  simpa using this
 show yielded ops.toArray a.tmps k = some w
 unfold yielded
 have hdst' : o.dst = some d := by simpa using hdst
 have : (ops.toArray[k]?).bind (·.dst) = some d := by simp [hk, hdst']
 rw [this]
 simp only [Option.bind_some]
 rw [Array.getD_eq_getD_getElem?] at hv
 cases hx : a.tmps[d]? with
 | none => rw [hx] at hv; simp [undef] at hv
 | some v => rw [hx] at hv; simp at hv; subst hv; rfl
theorem rep_opdS (H : SimT D ρ M (yG ops.toArray a) t a) {tags : List (Nat × Bool)} (ht : ∀ j w, (j, w) ∈ tags → yG ops.toArray a j w) (x : Operand) : rep ρ M noG (ungrd tags (opd t x)) (a.eval x) := by
 cases x with
 | tmp i => exact rep_ungrd ht (H.at_ i)
 | const v =>
  have := rep_avOf ρ M noG v
  simp only [opd, Act.eval]
  cases hx : avOf v <;> rw [hx] at this <;> simp only [ungrd] <;> first | exact this | skip
  unfold avOf av1 at hx
  repeat' split at hx
  all_goals cases hx
 | global g => simp [opd, ungrd, rep]
 | func f => simp only [opd, ungrd, rep, Act.eval]; exact ⟨[], rfl, by simp [repL]⟩
theorem evPick_run (H : SimT D ρ M (yG ops.toArray a) t a) {tags : List (Nat × Bool)} (ht : ∀ j w, (j, w) ∈ tags → yG ops.toArray a j w) {c x y : Operand} {z : AV} (he : evPick ops t tags c x y = some z) :
  ∃ b, a.eval c = .bool b ∧ rep ρ M noG z (if b then a.eval x else a.eval y) := by
 unfold evPick at he
 split at he
 · rename_i d
   split at he
   · rename_i v hv
     injection he with he
     subst he
     unfold decided at hv
     cases hf : tags.find? (fun g => (ops[g.1]?).bind (·.dst) == some d) with
     | none => rw [hf] at hv; cases hv
     | some g =>
      rw [hf] at hv
      simp only [Option.map_some, Option.some.injEq] at hv
      subst hv
      obtain ⟨d', hd', hval⟩ := yielded_slot (ht g.1 g.2 (List.mem_of_find?_eq_some hf))
      have hd := List.find?_some hf
      simp only [beq_iff_eq] at hd
      rw [hd] at hd'
      injection hd' with hd'
      subst hd'
      refine ⟨g.2, hval, ?_⟩
      cases g.2 with
      | true => simpa using rep_opdS H ht x
      | false => simpa using rep_opdS H ht y
   split at he
   · rename_i b hb
     have hc : a.tmps.getD d undef = .bool b := by
      have := rep_ungrd ht (H.at_ d)
      rw [hb] at this
      simpa [rep] using this
     split at he
     · rename_i p q hp hq
       injection he with he
       subst he
       cases b with
       | true =>
        have := rep_opdS (tags := writers ops d true ++ tags) H (fun j w hm => by
         rcases List.mem_append.1 hm with h | h
         · exact writers_hold hc j w h
         · exact ht j w h) x
        rw [hp] at this
        exact ⟨true, hc, this⟩
       | false =>
        have := rep_opdS (tags := writers ops d false ++ tags) H (fun j w hm => by
         rcases List.mem_append.1 hm with h | h
         · exact writers_hold hc j w h
         · exact ht j w h) y
        rw [hq] at this
        exact ⟨false, hc, this⟩
     · cases he
   · cases he
 · cases he
end

theorem isPick_inv {op : Op} {c x y : Operand} (h : isPick op = some (c, x, y)) : op = .pick c x y := by
 unfold isPick at h
 split at h
 · simp only [Option.some.injEq, Prod.mk.injEq] at h
   obtain ⟨rfl, rfl, rfl⟩ := h
   rfl
 · cases h
theorem repS_clean {ρ : Loc} {M : Mem} {G : Nat → Bool → Prop} {x : AV} {v : Value} (h : rep ρ M noG x v) : repS ρ M G (ungrd [] x) v := by
 cases x
 case grd => simp [ungrd, repS, rep]
 all_goals exact h
theorem pick_exec {a : Act} {o : Oper} {c x y : Operand} (ho : o.op = .pick c x y) {b : Bool} (hc : a.eval c = .bool b) (P : Program) (w : World) : (execOp a.eval o).run P w = .ok (.value (if b then a.eval x else a.eval y)) w := by
 obtain ⟨dst, op, ty, pos, after, guard⟩ := o
 simp only at ho
 subst ho
 simp only [execOp, hc, asBool, Sem.run_bind, Sem.run_pure, Result.andThen_ok]
abbrev wR (ro : Option Nat) : Fence := { Fence.wide with round := ro }
theorem evOp_notDefer {E : Env} {t : List AV} {h : List AObj} {nid : Nat} {o : Oper} {r : Out} (he : evOpF E t h nid o = some r) (c : Call) : o.op ≠ .defer c := by
 intro hc
 unfold evOpF evOp slotCells at he
 rw [hc] at he
 cases he
theorem wpIn_of {ro : Option Nat} {P : Program} {o : Oper} {a : Act} {w : World} {next : Act → World → Prop} {Q : Exit → Act → World → Prop} (hd : ∀ c, o.op ≠ .defer c) (hh : o.wp P a w next Q) : o.wpIn (wR ro) 0 P a w next Q := by
 refine ⟨fun _ _ => trivial, ?_⟩
 rw [show o.semAt (wR ro).round a.eval = execOp a.eval o from Oper.semAt_eq ro a.eval o hd]
 unfold Oper.wp at hh
 generalize (execOp a.eval o).run P w = r at hh ⊢
 cases r with
 | ok x w' =>
  cases x <;> simp only [Oper.upon] at hh <;> simp only [Oper.uponIn] <;> first
   | exact hh
   | exact hh.elim
   | exact ⟨fun h => by simp [Fence.wide] at h, callsIn_wide.2 hh⟩
   | exact ⟨fun h => by simp [Fence.wide] at h, fun c cs _ => let ⟨v, w'', r, s⟩ := hh c cs; ⟨v, w'', r, stepsIn_wide.2 s⟩⟩
 | halt x w' => cases x <;> simp only [Oper.upon] at hh <;> simp only [Oper.uponIn] <;> exact hh
theorem wpListIn_stepR {ro : Option Nat} {P : Program} {ops : Array Oper} {Q : Exit → Act → World → Prop} {a : Act} {w : World} {rest : List Oper} {o : Oper}
  (h : ∀ K : Act → World → Prop, (∀ a w, wpListIn (wR ro) 0 P ops Q rest a w → K a w) → if Region.wanted o (yielded ops a.tmps) then o.wpIn (wR ro) 0 P a w K Q else K (a.put o.dst undef) w) : wpListIn (wR ro) 0 P ops Q (o :: rest) a w := by
 refine wpListIn_step fun K hK => ?_
 have := h K hK
 split
 · rename_i hw; rw [if_pos hw] at this; exact this
 · rename_i hw; rw [if_neg hw] at this; exact ⟨fun _ _ => trivial, this⟩
theorem isPick_notDefer {op : Op} {c x y : Operand} (h : isPick op = some (c, x, y)) (d : Call) : op ≠ .defer d := by
 intro e; subst e; cases h

section
variable {E : Env} {B : Nat → Prop} {w0 w : World} {M0 M : Mem} {ρ : Loc} {a : Act} {ops : List Oper} {ro : Option Nat}
theorem evOpG_notDefer {E : Env} {t : List AV} {h : List AObj} {nid : Nat} {o : Oper} {r : Out} (he : evOpG E t h nid o = some r) (c : Call) : o.op ≠ .defer c := by
 unfold evOpG at he
 split at he
 · rename_i ho
   intro hc
   rw [hc] at ho
   cases ho
 · exact evOp_notDefer he c
theorem stepR_sound (hK : KOk E) {o : Oper} {s s' : St} {p : List Prop} {dt : List (Nat × Bool)} (hdt : ∀ j w, (j, w) ∈ dt → yG ops.toArray a j w) (he : stepR E ops dt o s = some (p, s')) (hp : ∀ q ∈ p, q) (H : SimH B w0 M0 s.h w ρ M) (T : SimT D ρ M (yG ops.toArray a) s.t a)
  (next : Act → World → Prop) (Q : Exit → Act → World → Prop) (hnext : ∀ v w' ρ' M', ρ.le ρ' → M.le M' → SimH B w0 M0 s'.h w' ρ' M' → SimT D ρ' M' (yG ops.toArray (a.put o.dst v)) s'.t (a.put o.dst v) → next (a.put o.dst v) w') :
  if Region.wanted o (yielded ops.toArray a.tmps) then o.wpIn (wR ro) 0 E.P a w next Q else next (a.put o.dst undef) w := by
 have htl : ∀ tags : List (Nat × Bool), (∀ j w, (j, w) ∈ tags → yG ops.toArray a j w) → ∀ i, rep ρ M noG ((s.t.map (ungrd tags)).getD i .unk) (a.eval (.tmp i)) := by
  intro tags ht i
  rw [map_getD _ rfl]
  exact rep_ungrd ht (T.at_ i)
 unfold stepR at he
 split at he
 ·
  rename_i hg
  have hw : Region.wanted o (yielded ops.toArray a.tmps) = true := by simp [Region.wanted, hg]
  rw [if_pos hw]
  split at he
  · rename_i c x y hpick
    split at he
    · rename_i z hz
      simp only [Option.some.injEq, Prod.mk.injEq] at he
      obtain ⟨rfl, rfl⟩ := he
      obtain ⟨b, hc, hr⟩ := evPick_run T hdt hz
      refine wpIn_of (isPick_notDefer hpick) ?_
      unfold Oper.wp
      rw [pick_exec (isPick_inv hpick) hc]
      exact hnext _ w ρ M (Loc.le_refl _) (Mem.le_refl _) H (T.put (Loc.le_refl _) (Mem.le_refl _) (repS_clean hr))
    · cases he
  · split at he
    · rename_i x effs need hev
      simp only [Option.some.injEq, Prod.mk.injEq] at he
      obtain ⟨rfl, rfl⟩ := he
      refine wpIn_of (evOp_notDefer hev) (evOpF_sound hK hev hp H (fun _ _ => rfl) (fun q _ hq => H.fresh _ hq) (htl dt hdt) next Q ?_)
      intro v w' ρ' M' h1 h2 h3 h4
      exact hnext _ w' ρ' M' h1.1 h2 h3 (T.put h1.1 h2 (repS_clean h4))
    · cases he
 ·
  rename_i g hg
  split at he
  · cases he
  · rename_i hdst
    have hG : ∀ v, yG ops.toArray (a.put o.dst v) g.1 g.2 ↔ yG ops.toArray a g.1 g.2 := by
     intro v
     cases hd : o.dst with
     | none => exact Iff.rfl
     | some d =>
      have : (ops.toArray[g.1]?).bind (·.dst) ≠ some d := by rw [hd] at hdst; simpa using hdst
      simp only [yG, yielded_put this]
    by_cases hwant : yG ops.toArray a g.1 g.2
    · have hw : Region.wanted o (yielded ops.toArray a.tmps) = true := by
        simp only [Region.wanted, hg]
        simpa [yG] using hwant
      rw [if_pos hw]
      have htags : ∀ j w, (j, w) ∈ tagsOf ops s.t 8 g ++ dt → yG ops.toArray a j w := fun j w hm => (List.mem_append.1 hm).elim (tagsOf_hold T 8 g hwant j w) (hdt j w)
      split at he
      · rename_i c x y hpick
        split at he
        · rename_i z hz
          simp only [Option.some.injEq, Prod.mk.injEq] at he
          obtain ⟨rfl, rfl⟩ := he
          obtain ⟨b, hc, hr⟩ := evPick_run T htags hz
          refine wpIn_of (isPick_notDefer hpick) ?_
          unfold Oper.wp
          rw [pick_exec (isPick_inv hpick) hc]
          exact hnext _ w ρ M (Loc.le_refl _) (Mem.le_refl _) H (T.put (Loc.le_refl _) (Mem.le_refl _) (.inl ⟨(hG _).2 hwant, hr⟩))
        · cases he
      · split at he
        · rename_i x need hev
          simp only [Option.some.injEq, Prod.mk.injEq] at he
          obtain ⟨rfl, rfl⟩ := he
          refine wpIn_of (evOp_notDefer hev) (evOpF_sound hK hev (fun q hq => hp _ (List.mem_map_of_mem hq) (condP_hold T 8 g hwant)) H (fun _ _ => rfl) (fun q _ hq => H.fresh _ hq) (htl _ htags) next Q ?_)
          intro v w' ρ' M' h1 h2 h3 h4
          exact hnext _ w' ρ' M' h1.1 h2 h3 (T.put h1.1 h2 (.inl ⟨(hG _).2 hwant, h4⟩))
        · cases he
    · have hw : ¬ Region.wanted o (yielded ops.toArray a.tmps) = true := by
        simp only [Region.wanted, hg]
        simpa [yG] using hwant
      rw [if_neg hw]
      split at he
      · split at he
        · simp only [Option.some.injEq, Prod.mk.injEq] at he
          obtain ⟨rfl, rfl⟩ := he
          exact hnext _ w ρ M (Loc.le_refl _) (Mem.le_refl _) H (T.put (Loc.le_refl _) (Mem.le_refl _) (.inr ⟨fun h => hwant ((hG _).1 h), rfl⟩))
        · cases he
      · split at he
        · simp only [Option.some.injEq, Prod.mk.injEq] at he
          obtain ⟨rfl, rfl⟩ := he
          exact hnext _ w ρ M (Loc.le_refl _) (Mem.le_refl _) H (T.put (Loc.le_refl _) (Mem.le_refl _) (.inr ⟨fun h => hwant ((hG _).1 h), rfl⟩))
        · cases he

theorem stepRg_sound (hK : KOk E) {o : Oper} {s s' : St} {p : List Prop} {dt : List (Nat × Bool)} (hdt : ∀ j w, (j, w) ∈ dt → yG ops.toArray a j w) (he : stepRg E ops dt o s = some (p, s')) (hp : ∀ q ∈ p, q) (H : SimH B w0 M0 s.h w ρ M) (T : SimT D ρ M (yG ops.toArray a) s.t a)
  (next : Act → World → Prop) (Q : Exit → Act → World → Prop) (hnext : ∀ v w' ρ' M', ρ.le ρ' → M.le M' → SimH B w0 M0 s'.h w' ρ' M' → SimT D ρ' M' (yG ops.toArray (a.put o.dst v)) s'.t (a.put o.dst v) → next (a.put o.dst v) w') :
  if Region.wanted o (yielded ops.toArray a.tmps) then o.wpIn (wR ro) 0 E.P a w next Q else next (a.put o.dst undef) w := by
 have htl : ∀ tags : List (Nat × Bool), (∀ j w, (j, w) ∈ tags → yG ops.toArray a j w) → ∀ i, rep ρ M noG ((s.t.map (ungrd tags)).getD i .unk) (a.eval (.tmp i)) := by
  intro tags ht i
  rw [map_getD _ rfl]
  exact rep_ungrd ht (T.at_ i)
 unfold stepRg at he
 split at he
 · cases he
 · rename_i g hg
   split at he
   · cases he
   · rename_i hdst
     have hG : ∀ v, yG ops.toArray (a.put o.dst v) g.1 g.2 ↔ yG ops.toArray a g.1 g.2 := by
      intro v
      cases hd : o.dst with
      | none => exact Iff.rfl
      | some d =>
       have : (ops.toArray[g.1]?).bind (·.dst) ≠ some d := by rw [hd] at hdst; simpa using hdst
       simp only [yG, yielded_put this]
     by_cases hwant : yG ops.toArray a g.1 g.2
     · have hw : Region.wanted o (yielded ops.toArray a.tmps) = true := by
         simp only [Region.wanted, hg]
         simpa [yG] using hwant
       rw [if_pos hw]
       have htags : ∀ j w, (j, w) ∈ tagsOf ops s.t 8 g ++ dt → yG ops.toArray a j w := fun j w hm => (List.mem_append.1 hm).elim (tagsOf_hold T 8 g hwant j w) (hdt j w)
       split at he
       · rename_i x need hev
         simp only [Option.some.injEq, Prod.mk.injEq] at he
         obtain ⟨rfl, rfl⟩ := he
         refine wpIn_of (evOpG_notDefer hev) (evOpG_sound hK hev (fun q hq => hp _ (List.mem_map_of_mem hq) (condP_hold T 8 g hwant)) H (fun _ _ => rfl) (fun q _ hq => H.fresh _ hq) (htl _ htags) next Q ?_)
         intro v w' ρ' M' h1 h2 h3 h4
         exact hnext _ w' ρ' M' h1.1 h2 h3 (T.put h1.1 h2 (.inl ⟨(hG _).2 hwant, h4⟩))
       · cases he
     · have hw : ¬ Region.wanted o (yielded ops.toArray a.tmps) = true := by
         simp only [Region.wanted, hg]
         simpa [yG] using hwant
       rw [if_neg hw]
       split at he
       · simp only [Option.some.injEq, Prod.mk.injEq] at he
         obtain ⟨rfl, rfl⟩ := he
         exact hnext _ w ρ M (Loc.le_refl _) (Mem.le_refl _) H (T.put (Loc.le_refl _) (Mem.le_refl _) (.inr ⟨fun h => hwant ((hG _).1 h), rfl⟩))
       · cases he

theorem stepR_next (hK : KOk E) {o : Oper} {s s' : St} {p : List Prop} {dt : List (Nat × Bool)} (hdt : ∀ j w, (j, w) ∈ dt → yG ops.toArray a j w) (he : stepR E ops dt { o with guard := none } s = some (p, s')) (hp : ∀ q ∈ p, q) (H : SimH B w0 M0 s.h w ρ M) (T : SimT D ρ M (yG ops.toArray a) s.t a)
  (next : Act → World → Prop) (Q : Exit → Act → World → Prop) (hnext : ∀ v w' ρ' M', ρ.le ρ' → M.le M' → SimH B w0 M0 s'.h w' ρ' M' → SimT D ρ' M' (yG ops.toArray (a.put o.dst v)) s'.t (a.put o.dst v) → next (a.put o.dst v) w') :
  ({ o with guard := none } : Oper).wpIn (wR ro) 0 E.P a w next Q := by
 have := stepR_sound (ro := ro) hK hdt he hp H T next Q hnext
 rwa [if_pos (by simp [Region.wanted])] at this
theorem lookup_mem {j : Nat} {v : Bool} : ∀ {l : List (Nat × Bool)}, l.lookup j = some v → (j, v) ∈ l
 | (k, u) :: l, h => by
   simp only [List.lookup] at h
   split at h
   · rename_i hk
     injection h with h
     subst h
     have : j = k := by simpa using hk
     subst this
     exact List.mem_cons_self
   · exact List.mem_cons_of_mem _ (lookup_mem h)
theorem slotB_hold {t : List AV} (T : SimT D ρ M (yG ops.toArray a) t a) {j : Nat} {b : Bool} (h : slotB ops t j = some b) : yG ops.toArray a j b := by
 unfold slotB at h
 split at h
 · rename_i d hd
   split at h
   · rename_i b' hb
     injection h with h
     subst h
     have := T.at_ d
     rw [hb] at this
     simp only [repS, rep] at this
     show yielded ops.toArray a.tmps j = some b'
     unfold yielded
     have hd' : (ops.toArray[j]?).bind (·.dst) = some d := by simpa using hd
     rw [hd']
     simp only [Option.bind_some]
     rw [Array.getD_eq_getD_getElem?] at this
     cases hx : a.tmps[d]? with
     | none => rw [hx] at this; simp [undef] at this
     | some v => rw [hx] at this; simp at this; subst this; rfl
   · cases h
 · cases h
theorem callOf_inv {dt : List (Nat × Bool)} {o : Oper} {s : St} {g : FuncId} {args : List AV} (h : callOf dt o s = some (g, args)) : ∃ c f cap, o.op = .call c ∧ c.callee = .value f ∧ ungrd dt (opd s.t f) = .fn g cap ∧
  args = (c.args.toList.map fun x => coerce s.h (ungrd dt (opd s.t x))) ++ cap := by
 unfold callOf at h
 split at h
 · rename_i c hop
   split at h
   · rename_i f hf
     split at h
     · rename_i g' cap hgc
       simp only [Option.some.injEq, Prod.mk.injEq] at h
       obtain ⟨rfl, rfl⟩ := h
       exact ⟨c, f, cap, hop, hf, hgc, rfl⟩
     · cases h
   · cases h
 · cases h
theorem branchy_inv {dt : List (Nat × Bool)} {o : Oper} {s : St} {r : Branch} (h : branchy E dt o s = some r) : ∃ g args, callOf dt o s = some (g, args) ∧ (match r with
  | .may b pv => E.KP g args = some (b, pv)
  | .two b x y => E.KB g args s.h s.h.length = some (b, x, y)) := by
 unfold branchy at h
 split at h
 · rename_i g args hc
   refine ⟨g, args, hc, ?_⟩
   split at h
   · rename_i b pv hk
     simp only [Option.some.injEq] at h
     subst h
     exact hk
   · split at h
     · rename_i b x y hk
       simp only [Option.some.injEq] at h
       subst h
       exact hk
     · cases h
 · cases h
theorem repL_opdS {t : List AV} {dt : List (Nat × Bool)} (hdt : ∀ j w, (j, w) ∈ dt → yG ops.toArray a j w) (T : SimT D ρ M (yG ops.toArray a) t a) : ∀ (xs : List Operand), repL ρ M noG (xs.map fun x => ungrd dt (opd t x)) (xs.map a.eval)
 | [] => by simp [repL]
 | x :: xs => by simp only [List.map_cons, repL]; exact ⟨rep_opdS T hdt x, repL_opdS hdt T xs⟩
theorem callOf_notDefer {dt : List (Nat × Bool)} {o : Oper} {s : St} {g : FuncId} {args : List AV} (h : callOf dt o s = some (g, args)) (d : Call) : o.op ≠ .defer d := by
 obtain ⟨c, _, _, hop, _⟩ := callOf_inv h
 rw [hop]; nofun
theorem yieldy_inv {dt : List (Nat × Bool)} {o : Oper} {s : St} {r : YB} (h : yieldy E dt o s = some r) : ∃ c f id, o.op = .call c ∧ c.callee = .value f ∧ ungrd dt (opd s.t f) = .yld id ∧
  E.Y (.yld id :: c.args.toList.map fun x => coerce s.h (ungrd dt (opd s.t x))) s.h s.h.length = some r := by
 unfold yieldy at h
 split at h
 · rename_i c hop
   split at h
   · rename_i f hf
     split at h
     · rename_i id hid
       exact ⟨c, f, id, hop, hf, hid, h⟩
     · cases h
   · cases h
 · cases h
theorem yield_step {dt : List (Nat × Bool)} (hdt : ∀ j w, (j, w) ∈ dt → yG ops.toArray a j w) {s : St} {o : Oper} {c : Call} {f : Operand} {id : Nat} (hop : o.op = .call c) (hf : c.callee = .value f) (hid : ungrd dt (opd s.t f) = .yld id)
  {x : AV} {effs : Eff} (hY : YSound E.P (.yld id :: c.args.toList.map fun x => coerce s.h (ungrd dt (opd s.t x))) s.h s.h.length x effs) (H : SimH B w0 M0 s.h w ρ M) (T : SimT D ρ M (yG ops.toArray a) s.t a)
  (next : Act → World → Prop) (Q : Exit → Act → World → Prop) (hn : ∀ v w' ρ' M', ρ.only ρ' effs → M.le M' → SimH B w0 M0 (applyEff s.h effs) w' ρ' M' → rep ρ' M' noG x v → next (a.put o.dst v) w') : o.wpIn (wR ro) 0 E.P a w next Q := by
 have hfv := rep_opdS T hdt f
 rw [hid] at hfv
 obtain ⟨l, hl, hval⟩ := (by simpa only [rep] using hfv : ∃ r, ρ id = some (.blk r) ∧ a.eval f = .func (.yield r) #[] #[])
 have hargs := repL_coerce H (fun _ _ => rfl) (repL_opdS hdt T c.args.toList)
 rw [List.map_map] at hargs
 have hall : repL ρ M noG (.yld id :: c.args.toList.map fun x => coerce s.h (ungrd dt (opd s.t x))) (.func (.yield l) #[] #[] :: c.args.toList.map a.eval) := by
  simp only [repL, rep]
  exact ⟨⟨l, hl, rfl⟩, hargs⟩
 obtain ⟨fn, tmps, asg, body, hrun, hround⟩ := hY B w0 M0 s.h w ρ M l _ H (fun _ _ => rfl) (fun p _ hp => H.fresh _ hp) hall
 refine ⟨fun _ _ => trivial, ?_⟩
 rw [show o.semAt (wR ro).round a.eval = execOp a.eval o from Oper.semAt_eq ro a.eval o (fun d => by rw [hop]; nofun)]
 obtain ⟨dst, op, ty, pos, after, guard⟩ := o
 simp only at hop
 subst hop
 have hres : (resolve a.eval c ty).run E.P w = .ok { target := .fn (.yield l) #[], args := c.args.map a.eval } w := by
  simp only [resolve, hf, hval, Deferred.ofValue]
  simp
 have harr : (c.args.map a.eval : Array Value) = ⟨c.args.toList.map a.eval⟩ := by apply Array.ext'; simp
 have hex : (execOp a.eval { dst := dst, op := .call c, type := ty, pos := pos, after := after, guard := guard }).run E.P w = .ok (.round l fn tmps asg body) w := by
  simp only [execOp, Sem.run_bind, hres, Result.andThen_ok, invoke, harr]
  exact hrun
 rw [hex, Oper.uponIn_round]
 refine ⟨fun h => by simp [Fence.wide] at h, RoundIn.mono (R := _) hround fun e w' hpost => ?_⟩
 obtain ⟨v, ρ', M', rfl, h1, h2, h3, h4⟩ := hpost
 exact hn v w' ρ' M' h1 h2 h3 h4
theorem callOf_run {dt : List (Nat × Bool)} (hdt : ∀ j w, (j, w) ∈ dt → yG ops.toArray a j w) {s : St} {o : Oper} {g : FuncId} {args : List AV} (hc : callOf dt o s = some (g, args)) (H : SimH B w0 M0 s.h w ρ M) (T : SimT D ρ M (yG ops.toArray a) s.t a)
  (hent : ∀ (vs : Array Value) (w : World), (callFunc g vs).run E.P w = .ok (.enter g vs) w) :
  ∃ vs : List Value, repL ρ M noG args vs ∧ (execOp a.eval o).run E.P w = .ok (.enter g ⟨vs⟩) w := by
 obtain ⟨c, f, cap, hop, hf, hgc, rfl⟩ := callOf_inv hc
 have hfv := rep_opdS T hdt f
 rw [hgc] at hfv
 simp only [rep] at hfv
 obtain ⟨cvs, hval, hcvs⟩ := hfv
 refine ⟨c.args.toList.map a.eval ++ cvs, ?_, ?_⟩
 · have := repL_coerce H (fun _ _ => rfl) (repL_opdS hdt T c.args.toList)
   rw [List.map_map] at this
   exact repL_append this hcvs
 · obtain ⟨dst, op, ty, pos, after, guard⟩ := o
   simp only at hop
   subst hop
   have hres : (resolve a.eval c ty).run E.P w = .ok { target := .fn (.func g) ⟨cvs⟩, args := c.args.map a.eval } w := by
    simp only [resolve, hf, hval, Deferred.ofValue]
    simp
   have harr : (c.args.map a.eval ++ (⟨cvs⟩ : Array Value)) = ⟨c.args.toList.map a.eval ++ cvs⟩ := by apply Array.ext'; simp
   simp only [execOp, Sem.run_bind, hres, Result.andThen_ok, invoke, harr]
   exact hent _ _
theorem wp_noguard {P : Program} {o : Oper} {a : Act} {w : World} {next : Act → World → Prop} {Q : Exit → Act → World → Prop} (h : ({ o with guard := none } : Oper).wpIn (wR ro) 0 P a w next Q) : o.wpIn (wR ro) 0 P a w next Q := by
 obtain ⟨dst, op, ty, pos, after, guard⟩ := o
 exact h
theorem keepDt_hold {dt : List (Nat × Bool)} (hdt : ∀ j w, (j, w) ∈ dt → yG ops.toArray a j w) (d : Option Tmp) (v : Value) : ∀ j w, (j, w) ∈ keepDt ops d dt → yG ops.toArray (a.put d v) j w := by
 intro j w hm
 obtain ⟨h1, h2⟩ := List.mem_filter.1 hm
 have h3 := hdt j w h1
 cases d with
 | none => exact h3
 | some d =>
  show yielded ops.toArray (a.put (some d) v).tmps j = some w
  rw [yielded_put (by simpa using h2)]
  exact h3
theorem runU_sound (hK : KOk E) {PQ : Exit → St → Prop} {Q : Exit → Act → World → Prop} {dt : List (Nat × Bool)} (hdt : ∀ j w, (j, w) ∈ dt → yG ops.toArray a j w) {o : Oper} {l : List Oper} {s : St} {k : St → Tree} (he : (runU E ops dt o s k).All PQ)
  (H : SimH B w0 M0 s.h w ρ M) (T : SimT D ρ M (yG ops.toArray a) s.t a) (hw : Region.wanted o (yielded ops.toArray a.tmps) = true)
  (hpan : ∀ b pv w' M', branchy E dt o s = some (.may b pv) → PQ (.panic [{ v := pv, recovered := false }]) s → M.le M' → SimH B w0 M0 s.h w' ρ M' → SimT D ρ M' (yG ops.toArray a) s.t a → Q (.panic [{ v := pv, recovered := false }]) a w')
  (hk : ∀ v s' w' ρ' M', (k s').All PQ → ρ.le ρ' → M.le M' → SimH B w0 M0 s'.h w' ρ' M' → SimT D ρ' M' (yG ops.toArray (a.put o.dst v)) s'.t (a.put o.dst v) → wpListIn (wR ro) 0 E.P ops.toArray Q l (a.put o.dst v) w') :
  wpListIn (wR ro) 0 E.P ops.toArray Q (o :: l) a w := by
 unfold runU at he
 split at he
 · rename_i b pv hpk
   obtain ⟨g, args, hcall, hkp⟩ := branchy_inv hpk
   simp only at hkp
   obtain ⟨vs, hargs, hexec⟩ := callOf_run (E := E) hdt hcall H T (hK.pEnters _ _ _ hkp)
   have hcallof := hcall
   have hcall := hK.pSound _ _ _ _ hkp B w0 M0 s.h w ρ M _ H hargs
   unfold wpListIn
   rw [if_pos hw]
   refine wpIn_of (callOf_notDefer hcallof) ?_
   unfold Oper.wp
   rw [hexec]
   refine hcall.mono fun e w' hpost => ?_
   obtain ⟨rfl, M', hM, H'⟩ := hpost
   cases b with
   | true => exact hk _ _ w' ρ M' (he.1 rfl) (Loc.le_refl _) hM H' (T.put (Loc.le_refl _) hM (by simp only [repS, rep]; exact ⟨[], rfl, by simp [repL]⟩))
   | false => exact hpan _ _ w' M' hpk (he.2 rfl) hM H' ⟨T.len, T.defers, fun i => repS_mono (Loc.le_refl _) hM (T.at_ i)⟩
 · rename_i b x y hpk
   obtain ⟨g, args, hcall, hkb⟩ := branchy_inv hpk
   simp only at hkb
   obtain ⟨vs, hargs, hexec⟩ := callOf_run (E := E) hdt hcall H T (hK.bEnters _ _ _ _ _ hkb)
   obtain ⟨x1, e1, n1⟩ := x
   obtain ⟨x2, e2, n2⟩ := y
   have hs := hK.bSound _ _ _ _ _ _ _ _ _ _ _ hkb
   have key : ∀ (z : AV) (effs : Eff), KSound E.P g args s.h s.h.length z effs → (k ⟨putS ops s.t o.dst (ungrd [] z), applyEff s.h effs⟩).All PQ → wpListIn (wR ro) 0 E.P ops.toArray Q (o :: l) a w := by
    intro z effs hks hall
    have hcl := hks B w0 M0 s.h w ρ M _ H (fun _ _ => rfl) (fun p _ hp => H.fresh _ hp) hargs
    unfold wpListIn
    rw [if_pos hw]
    refine wpIn_of (callOf_notDefer hcall) ?_
    unfold Oper.wp
    rw [hexec]
    refine hcl.mono fun e w' hpost => ?_
    obtain ⟨v, ρ', M', rfl, h1, h2, h3, h4⟩ := hpost
    exact hk _ _ w' ρ' M' hall h1.1 h2 h3 (T.put h1.1 h2 (repS_clean h4))
   cases b with
   | true =>
    obtain ⟨hn, hall⟩ := needs_all (he.1 rfl)
    exact key x1 e1 (hs.1 rfl hn) hall
   | false =>
    obtain ⟨hn, hall⟩ := needs_all (he.2 rfl)
    exact key x2 e2 (hs.2 rfl hn) hall
 · split at he
   · rename_i x hy
     obtain ⟨c, f, id, hop, hf, hid, hE⟩ := yieldy_inv hy
     obtain ⟨x1, e1, n1⟩ := x
     obtain ⟨hn, hall⟩ := needs_all he
     unfold wpListIn
     rw [if_pos hw]
     refine yield_step hdt hop hf hid (hK.yOk _ _ _ _ hE hn) H T _ _ fun v w' ρ' M' h1 h2 h3 h4 => ?_
     exact hk _ _ w' ρ' M' hall h1.1 h2 h3 (T.put h1.1 h2 (repS_clean h4))
   · rename_i b x y hy
     obtain ⟨c, f, id, hop, hf, hid, hE⟩ := yieldy_inv hy
     obtain ⟨x1, e1, n1⟩ := x
     obtain ⟨x2, e2, n2⟩ := y
     have hs := hK.yOk _ _ _ _ hE
     unfold wpListIn
     rw [if_pos hw]
     cases b with
     | true =>
      obtain ⟨hn, hall⟩ := needs_all (he.1 rfl)
      refine yield_step hdt hop hf hid (hs.1 rfl hn) H T _ _ fun v w' ρ' M' h1 h2 h3 h4 => ?_
      exact hk _ _ w' ρ' M' hall h1.1 h2 h3 (T.put h1.1 h2 (repS_clean h4))
     | false =>
      obtain ⟨hn, hall⟩ := needs_all (he.2 rfl)
      refine yield_step hdt hop hf hid (hs.2 rfl hn) H T _ _ fun v w' ρ' M' h1 h2 h3 h4 => ?_
      exact hk _ _ w' ρ' M' hall h1.1 h2 h3 (T.put h1.1 h2 (repS_clean h4))
   · have hh : ∃ p s', stepR E ops dt { o with guard := none } s = some (p, s') ∧ (∀ q ∈ p, q) ∧ (k s').All PQ := by
       split at he
       · rename_i p s' h1
         obtain ⟨a1, a2⟩ := needs_all he
         exact ⟨_, s', h1, a1, a2⟩
       · exact he.elim
     obtain ⟨p, s', h1, hp, h2⟩ := hh
     refine wpListIn_stepR fun K hKK => ?_
     rw [if_pos hw]
     have := stepR_next (ro := ro) hK hdt h1 hp H T K Q fun v w' ρ' M' l1 l2 H' T' => hKK _ _ (hk v s' w' ρ' M' h2 l1 l2 H' T')
     exact wp_noguard this
theorem evSeq_sound (hK : KOk E) (PQ : Exit → St → Prop) (Q : Exit → Act → World → Prop) : ∀ (l : List Oper) (dt : List (Nat × Bool)) (s : St) (a : Act) (w : World) (ρ : Loc) (M : Mem), (∀ j w, (j, w) ∈ dt → yG ops.toArray a j w) → (evSeq E ops dt l s).All PQ → SimH B w0 M0 s.h w ρ M → SimT D ρ M (yG ops.toArray a) s.t a →
  (∀ e s' a' w' ρ' M', PQ e s' → ρ.le ρ' → M.le M' → SimH B w0 M0 s'.h w' ρ' M' → SimT D ρ' M' (yG ops.toArray a') s'.t a' → Q e a' w') → wpListIn (wR ro) 0 E.P ops.toArray Q l a w
 | [], dt, s, a, w, ρ, M, _, he, H, T, hQ => hQ .normal s a w ρ M he (Loc.le_refl _) (Mem.le_refl _) H T
 | o :: l, dt, s, a, w, ρ, M, hdt, he, H, T, hQ => by
  have run : ∀ dt', (∀ j w, (j, w) ∈ dt' → yG ops.toArray a j w) → (runU E ops dt' o s (evSeq E ops (keepDt ops o.dst dt') l)).All PQ → Region.wanted o (yielded ops.toArray a.tmps) = true → wpListIn (wR ro) 0 E.P ops.toArray Q (o :: l) a w := by
   intro dt' hdt' hall hw
   refine runU_sound hK hdt' hall H T hw (fun b pv w' M' _ hq hM H' T' => hQ _ s a w' ρ M' hq (Loc.le_refl _) hM H' T') ?_
   intro v s' w' ρ' M' h2 l1 l2 H' T'
   exact evSeq_sound hK PQ Q l _ s' _ w' ρ' M' (keepDt_hold hdt' o.dst v) h2 H' T' fun e'' s'' a'' w'' ρ'' M'' q k1 k2 => hQ e'' s'' a'' w'' ρ'' M'' q (Loc.le_trans l1 k1) (Mem.le_trans l2 k2)
  have skip : ∀ dt', (∀ j w, (j, w) ∈ dt' → yG ops.toArray a j w) → (evSeq E ops (keepDt ops o.dst dt') l (skipU ops o s)).All PQ → ¬ Region.wanted o (yielded ops.toArray a.tmps) = true → wpListIn (wR ro) 0 E.P ops.toArray Q (o :: l) a w := by
   intro dt' hdt' hall hw
   refine wpListIn_stepR fun K hKK => ?_
   rw [if_neg hw]
   exact hKK _ _ (evSeq_sound hK PQ Q l _ _ _ w ρ M (keepDt_hold hdt' o.dst undef) hall H (T.put (Loc.le_refl _) (Mem.le_refl _) (by simp [repS, rep])) hQ)
  simp only [evSeq] at he
  split at he
  · rename_i hg
    exact run dt hdt he (by simp [Region.wanted, hg])
  · rename_i j wt hg
    have hwant : ∀ b, yG ops.toArray a j b → (Region.wanted o (yielded ops.toArray a.tmps) = true ↔ b = wt) := by
     intro b hb
     simp only [Region.wanted, hg]
     simp only [yG] at hb
     rw [hb]
     simp
    split at he
    · rename_i v hv
      have hm : yG ops.toArray a j v := hdt j v (lookup_mem hv)
      split at he
      · rename_i hvw
        exact run dt hdt he ((hwant v hm).2 (by simpa using hvw))
      · rename_i hvw
        exact skip dt hdt he fun h => hvw (by simpa using (hwant v hm).1 h)
    · split at he
      · rename_i p s' h1
        obtain ⟨hp, h2⟩ := needs_all he
        refine wpListIn_stepR fun K hKK => stepR_sound hK hdt h1 hp H T K Q ?_
        intro v w' ρ' M' l1 l2 H' T'
        exact hKK _ _ (evSeq_sound hK PQ Q l _ s' _ w' ρ' M' (keepDt_hold hdt o.dst v) h2 H' T' fun e'' s'' a'' w'' ρ'' M'' q k1 k2 => hQ e'' s'' a'' w'' ρ'' M'' q (Loc.le_trans l1 k1) (Mem.le_trans l2 k2))
      · split at he
        · rename_i b hb
          have hslot : yG ops.toArray a j b := slotB_hold T hb
          have hdt' : ∀ j' w', (j', w') ∈ (j, b) :: dt → yG ops.toArray a j' w' := by
           intro j' w' hm
           rcases List.mem_cons.1 hm with h | h
           · simp only [Prod.mk.injEq] at h; obtain ⟨rfl, rfl⟩ := h; exact hslot
           · exact hdt j' w' h
          cases wt with
          | true =>
           simp only [if_true] at he
           cases b with
           | true => exact run _ hdt' (he.1 rfl) ((hwant _ hslot).2 rfl)
           | false => exact skip _ hdt' (he.2 rfl) fun h => by cases (hwant _ hslot).1 h
          | false =>
           simp only [Bool.false_eq_true, if_false] at he
           cases b with
           | true => exact skip _ hdt' (he.1 rfl) fun h => by cases (hwant _ hslot).1 h
           | false => exact run _ hdt' (he.2 rfl) ((hwant _ hslot).2 rfl)
        · split at he
          · rename_i p s' h1
            obtain ⟨hp, h2⟩ := needs_all he
            refine wpListIn_stepR fun K hKK => stepRg_sound hK hdt h1 hp H T K Q ?_
            intro v w' ρ' M' l1 l2 H' T'
            exact hKK _ _ (evSeq_sound hK PQ Q l _ s' _ w' ρ' M' (keepDt_hold hdt o.dst v) h2 H' T' fun e'' s'' a'' w'' ρ'' M'' q k1 k2 => hQ e'' s'' a'' w'' ρ'' M'' q (Loc.le_trans l1 k1) (Mem.le_trans l2 k2))
          · exact he.elim
end

structure Sim (D : List Deferred) (B : Nat → Prop) (w0 : World) (M0 : Mem) (s : St) (a : Act) (w : World) (ρ : Loc) (M : Mem) : Prop where
 h : SimH B w0 M0 s.h w ρ M
 t : SimT D ρ M noG s.t a
theorem SimT.clean {ρ : Loc} {M : Mem} {G G' : Nat → Bool → Prop} {t : List AV} {a : Act} (T : SimT D ρ M G t a) : SimT D ρ M G' (t.map (ungrd [])) a := by
 refine ⟨by simp [T.len], T.defers, fun i => ?_⟩
 rw [map_getD _ rfl]
 exact repS_clean (by
  have := T.at_ i
  generalize t.getD i .unk = x at this ⊢
  cases x
  case grd => simp [rep]
  all_goals exact this)
def cleanS (s : St) : St := ⟨s.t.map (ungrd []), s.h⟩
def evRegion (E : Env) (ops : List Oper) (s : St) : Tree := (evSeq E ops [] ops (cleanS s)).bind fun e s' => .leaf e (cleanS s')
def kept (n : Nat) (ρ ρ' : Loc) : Prop := ∀ id r, id < n → ρ id = some r → ρ' id = some r
theorem kept.of_le {n : Nat} {ρ ρ' : Loc} (h : ρ.le ρ') : kept n ρ ρ' := fun id r _ => h id r
theorem kept.refl (n : Nat) (ρ : Loc) : kept n ρ ρ := fun _ _ _ h => h
theorem kept.trans {n : Nat} {a b c : Loc} (h : kept n a b) (k : kept n b c) : kept n a c := fun id r hi e => k id r hi (h id r hi e)
theorem evRegion_sound {E : Env} {ro : Option Nat} {B : Nat → Prop} {w0 w : World} {M0 M : Mem} {ρ : Loc} {a : Act} (hK : KOk E) {id n : Nat} {l : List Oper} {s : St} {Q : Exit → St → Prop} (he : (evRegion E l s).All Q) (H : Sim D B w0 M0 s a w ρ M) :
  (Code.region id l.toArray false).wpIn (wR ro) 0 E.P (fun e a' w' => ∃ s' ρ' M', Q e s' ∧ kept n ρ ρ' ∧ M.le M' ∧ Sim D B w0 M0 s' a' w' ρ' M') a w := by
 refine wpIn_region_lit (evSeq_sound hK _ _ l [] _ a w ρ M (fun _ _ h => by cases h) (Tree.All_bind he) H.h H.t.clean ?_)
 intro e s' a' w' ρ' M' hq l1 l2 H' T'
 exact ⟨cleanS s', ρ', M', hq, .of_le l1, l2, ⟨H', T'.clean⟩⟩
end Go.Eng
end
