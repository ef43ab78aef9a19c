/- The engine, part 5: stores, new blocks, places, comparisons. -/
import Derived.Test.YtnfmnipckcidlaaDoorE4
import Derived.Laws.StructEq
set_option linter.unusedVariables false
set_option linter.unusedSimpArgs false
namespace Go.Eng
open Go.RowKit (Below)

section
variable {P : Program} {B : Nat → Prop} {w0 w : World} {M0 M : Mem} {h hr : List AObj} {ρ : Loc}

theorem store_ptr (H : SimH B w0 M0 h w ρ M) {t ct : TypeId} {cs : List AV} {id off : Nat} {x : AV} {p v : Value} (ho : hget h id = .cells ct cs) (hp : rep ρ M noG (.ptr id off) p) (hv : rep ρ M noG x v)
    (hi : (P.info? t).isSome = true) (hl : x.cells.length = tsize P t) (hoff : off + x.cells.length ≤ cs.length) (h1 : x.cells.all AV.one = true) :
    ∃ w', (Instr.storeAt t p v).run P w = .ok () w' ∧ SimH B w0 M0 (hset h id (.cells ct (splice cs off x.cells))) w' ρ M := by
  obtain ⟨hc, hone⟩ := one_cellsL h1 hv
  have hobj := H.obj id
  rw [ho] at hobj
  obtain ⟨r, vs, e1, e0, e2, e3, e5⟩ := hobj
  have e4 := (H.own _ _ e0).1
  simp only [rep] at hp
  obtain ⟨r', h4, rfl⟩ := hp
  rw [e1] at h4
  injection h4 with h4
  injection h4 with h4
  subst h4
  have hlen := repL_length e3
  have hlc := repL_length hc
  have hrl := (Array.getElem?_eq_some_iff.1 e2).1
  refine ⟨putCells w r (spliceV vs off v.cells.toList) ct, ?_, ?_⟩
  · simp only [Instr.storeAt, Instr.sureAddr, Sem.run_bind, Sem.run_pure, Result.andThen_ok, storeVar, run_sizeOf t w hi]
    have hz : v.cells.size = tsize P t := by rw [← hl, hlc]; simp
    simp only [hz, ne_eq, not_true_eq_false, if_false]
    have := run_storeCells (P := P) (o := off) v.cells.toList vs 0 w e2 (by rw [← hlen, ← hlc]; simpa using hoff) hone
    simpa using this
  · refine H.update id _ (fun _ _ => rfl) (Loc.le_refl _) (Mem.le_refl _) ?_ ?_ (fun r' i hr' => ⟨(H.own r' i hr').1, by rw [putCells_size]; exact (H.own r' i hr').2⟩) ?_ (fun _ _ _ => rfl) (putCells_below e4)
    · exact ⟨r, _, e1, e0, putCells_at hrl, repL_splice off e3 hc, e5⟩
    · intro i r' hne hd hr'
      refine ⟨hr', putCells_ne fun e => hne ?_, fun _ h => h⟩
      subst e
      rw [e0] at hr'
      injection hr' with hr'
      exact hr'.symm
    · intro b o u hu
      have := H.mem b o u hu
      have hb : b ≠ r := fun e => by subst e; rw [e5 o] at hu; cases hu
      rw [← this]
      unfold World.cell?
      simp only []
      rw [putCells_ne hb]

theorem cells_avOf (z : Value) : repL ρ M noG (avOf z).cells z.cells.toList := by
  unfold avOf
  split
  · exact repL_av1 ρ M noG _
  · rename_i hz
    have hc : z.cells = #[z] := by cases z <;> first | rfl | exact absurd rfl (hz _)
    have h1 : (av1 z).cells = [av1 z] := by unfold av1; split <;> rfl
    rw [hc, h1]
    simp only [repL, and_true]
    exact rep_av1 ρ M noG z

theorem run_newVar (t : TypeId) (v : Value) : (newVar t v).run P w = .ok ⟨w.heap.size, 0, none⟩ (w.alloc (.cells v.cells t)) := rfl
theorem alloc_new (H : SimH B w0 M0 h w ρ M) {t : TypeId} {z : AV} {id : Nat} (hz : tzero P t = some z) (hid : ρ id = none) :
    ∃ w', (Instr.alloc t true (.tuple #[])).run P w = .ok (.pointer (some ⟨w.heap.size, 0, none⟩)) w' ∧ SimH B w0 M0 (hset h id (.cells t z.cells)) w' (ρ.put id (.blk w.heap.size) w.heap.size) M := by
  unfold tzero at hz
  cases hi : P.info? t with
  | none => rw [hi] at hz; cases hz
  | some i =>
    rw [hi] at hz
    simp only [Option.bind_some] at hz
    cases hzz : i.zero with
    | none => rw [hzz] at hz; cases hz
    | some zv =>
      rw [hzz] at hz
      injection hz with hz
      subst hz
      refine ⟨_, ?_, H.alloc id hid t _ _ (cells_avOf zv)⟩
      simp only [Instr.alloc, Sem.run_bind, run_zeroValue hi hzz, Result.andThen_ok, run_newVar, Sem.run_pure]
theorem box_new (H : SimH B w0 M0 h w ρ M) {t : TypeId} {x : AV} {v : Value} {id : Nat} (hv : rep ρ M noG x v) (h1 : x.cells.all AV.one = true) (hid : ρ id = none) :
    ∃ w', (Instr.box t v).run P w = .ok (.pointer (some ⟨w.heap.size, 0, none⟩)) w' ∧ SimH B w0 M0 (hset h id (.cells t x.cells)) w' (ρ.put id (.blk w.heap.size) w.heap.size) M := by
  refine ⟨_, ?_, H.alloc id hid t _ _ (one_cellsL h1 hv).1⟩
  simp only [Instr.box, Sem.run_bind, run_newVar, Result.andThen_ok, Sem.run_pure]

theorem rep_put_ptr {id r r' : Nat} : rep (ρ.put id (.blk r) r') M noG (.ptr id 0) (.pointer (some ⟨r, 0, none⟩)) := by
  simp only [rep]
  exact ⟨r, by simp [Loc.put], rfl⟩

/-! ### Places -/
theorem run_fieldAt {s : TypeId} {f off : Nat} {ft : TypeId} (hf : fieldOff P s f = some (off, ft)) (hz : tsize P ft ≠ 0) (b o : Nat) (w : World) :
    (Instr.fieldAt s (.pointer (some ⟨b, o, none⟩)) f).run P w = .ok (.pointer (some ⟨b, o + off, none⟩)) w := by
  unfold fieldOff at hf
  cases hu : P.underlying s with
  | none => rw [hu] at hf; cases hf
  | some d =>
    rw [hu] at hf
    cases d with
    | struct fs =>
      simp only [] at hf
      cases hfs : fs[f]? with
      | none => rw [hfs] at hf; cases hf
      | some fd =>
        rw [hfs] at hf
        simp only [Option.map_some, Option.some.injEq, Prod.mk.injEq] at hf
        obtain ⟨rfl, rfl⟩ := hf
        have hi : (P.info? fd.type).isSome = true := by
          unfold tsize at hz
          cases hi : P.info? fd.type with
          | none => rw [hi] at hz; simp at hz
          | some i => rfl
        simp only [Instr.fieldAt, Sem.run_bind, run_underlying hu, Result.andThen_ok, hfs, Instr.sureAddr, Sem.run_pure, fieldPlace, run_sizeOf fd.type w hi, hz, if_false, Addr.add_lit]
    | _ => cases hf

theorem fieldAddr_rep {s : TypeId} {f off : Nat} {ft : TypeId} (hf : fieldOff P s f = some (off, ft)) (hz : tsize P ft ≠ 0) {id o : Nat} {v : Value} (hv : rep ρ M noG (.ptr id o) v) :
    ∃ u, (Instr.fieldAt s v f).run P w = .ok u w ∧ rep ρ M noG (.ptr id (o + off)) u := by
  simp only [rep] at hv
  obtain ⟨r, h1, rfl⟩ := hv
  exact ⟨_, run_fieldAt hf hz r o w, by simp only [rep]; exact ⟨r, h1, rfl⟩⟩
theorem fieldAddr_ep {s : TypeId} {f off : Nat} {ft : TypeId} (hf : fieldOff P s f = some (off, ft)) (hz : tsize P ft ≠ 0) {c : Coll} {i o : Nat} {v : Value} (hle : o + off ≤ c.esz) (hv : rep ρ M noG (.ep c i o) v) :
    ∃ u, (Instr.fieldAt s v f).run P w = .ok u w ∧ rep ρ M noG (.ep c i (o + off)) u := by
  simp only [rep] at hv
  obtain ⟨h1, _, b, q, rfl, h2⟩ := hv
  exact ⟨_, run_fieldAt hf hz b _ w, by simp only [rep]; exact ⟨h1, hle, b, q, by rw [Nat.add_assoc], h2⟩⟩
theorem fieldAddr_evp {s : TypeId} {f off : Nat} {ft : TypeId} (hf : fieldOff P s f = some (off, ft)) (hz : tsize P ft ≠ 0) {id e i o : Nat} {v : Value} (hle : o + off ≤ e) (hv : rep ρ M noG (.evp id e i o) v) :
    ∃ u, (Instr.fieldAt s v f).run P w = .ok u w ∧ rep ρ M noG (.evp id e i (o + off)) u := by
  simp only [rep] at hv
  obtain ⟨_, r, n, cap, h1, h2, rfl⟩ := hv
  exact ⟨_, run_fieldAt hf hz r _ w, by simp only [rep]; exact ⟨hle, r, n, cap, h1, h2, by rw [Nat.add_assoc]⟩⟩
theorem indexAddr_vec (H : SimH B w0 M0 h w ρ M) {t e : TypeId} {f : Bool} {c : Coll} {id : Nat} {k : IntKind} {i : Int} {v : Value} (ho : hget h id = .vec f c) (hu : P.underlying t = some (.slice e)) (hi : (P.info? e).isSome = true) (hs : tsize P e = c.esz) (h0 : 0 ≤ i) (h1 : i < c.len)
    (hv : rep ρ M noG (.vec id) v) : ∃ u, (Instr.indexAt t v (.int k i)).run P w = .ok u w ∧ rep ρ M noG (.evp id c.esz i.toNat 0) u := by
  have hobj := H.obj id
  rw [ho] at hobj
  obtain ⟨hh, g1, g2⟩ := hobj
  simp only [rep] at hv
  have hv := hv.2
  rw [g1] at hv
  injection hv with hv
  injection hv with hv
  subst hv
  rcases g2 with ⟨_, g2⟩ | ⟨r, cap, vs, ct, rfl, _⟩
  · omega
  refine ⟨.pointer (some ((⟨r, 0, none⟩ : Addr).add (i.toNat * tsize P e))), ?_, ?_⟩
  · simp only [Instr.indexAt, Sem.run_bind, asIntOf, Sem.run_pure, Result.andThen_ok, run_underlying hu, Sem.run_ite]
    simp [h0, h1, run_sizeOf e w hi]
  · simp only [rep]
    refine ⟨Nat.zero_le _, r, _, _, g1, by omega, ?_⟩
    rw [Addr.add_lit, hs]
    simp
theorem indexAddr_coll {t e : TypeId} {c : Coll} {k : IntKind} {i : Int} {v : Value} (hu : P.underlying t = some (.slice e)) (hi : (P.info? e).isSome = true) (hs : tsize P e = c.esz) (h0 : 0 ≤ i) (h1 : i < c.len)
    (hv : rep ρ M noG (.coll c) v) : ∃ u, (Instr.indexAt t v (.int k i)).run P w = .ok u w ∧ rep ρ M noG (.ep c i.toNat 0) u := by
  simp only [rep] at hv
  obtain ⟨ad, cap, rfl, hl, hr⟩ := hv
  obtain ⟨b, o, rfl, hrd⟩ := hr (by omega)
  refine ⟨.pointer (some ((⟨b, o, none⟩ : Addr).add (i.toNat * tsize P e))), ?_, ?_⟩
  · simp only [Instr.indexAt, Sem.run_bind, asIntOf, Sem.run_pure, Result.andThen_ok, run_underlying hu, Sem.run_ite]
    simp [h0, h1, run_sizeOf e w hi]
  · simp only [rep]
    refine ⟨by omega, Nat.zero_le _, b, o, ?_, hrd⟩
    rw [Addr.add_lit, hs]
    rfl

theorem indexAddr_arr {t e : TypeId} {m : Nat} {k : IntKind} {i : Int} {id o : Nat} {v : Value} (hu : P.underlying t = some (.array m e)) (hi : (P.info? e).isSome = true) (h0 : 0 ≤ i) (h1 : i < m)
    (hv : rep ρ M noG (.ptr id o) v) : ∃ u, (Instr.indexAt t v (.int k i)).run P w = .ok u w ∧ rep ρ M noG (.ptr id (o + i.toNat * tsize P e)) u := by
  simp only [rep] at hv
  obtain ⟨b, hb, rfl⟩ := hv
  refine ⟨.pointer (some ((⟨b, o, none⟩ : Addr).add (i.toNat * tsize P e))), ?_, ?_⟩
  · simp only [Instr.indexAt, Sem.run_bind, asIntOf, Sem.run_pure, Result.andThen_ok, run_underlying hu, Sem.run_ite, Instr.sureAddr]
    simp [h0, h1, run_sizeOf e w hi]
  · simp only [rep]
    exact ⟨b, hb, by rw [Addr.add_lit]⟩
theorem run_index_string {t : TypeId} {s : ByteArray} {k : IntKind} {i : Int} (hu : P.underlying t = some .string) (h0 : 0 ≤ i) (h1 : i < s.size) :
    (Instr.index t (.string s) (.int k i)).run P w = .ok (.int .u8 (byteAt s i)) w := by
  have hlt : i.toNat < s.size := by omega
  have hg : s[i.toNat]? = some s[i.toNat] := by simp [hlt]
  have hb : ((s[i.toNat].toNat : Nat) : Int) = byteAt s i := by
    unfold byteAt
    congr 1
    rw [Array.getD_eq_getD_getElem?]
    have hs : i.toNat < s.data.size := hlt
    rw [Array.getElem?_eq_getElem hs]
    rfl
  simp only [Instr.index, Sem.run_bind, asIntOf, Sem.run_pure, Result.andThen_ok, run_underlying hu, h0, if_true, hg, hb]

/-! ### Comparisons -/
theorem toList_inj {a b : ByteArray} : (a.toList == b.toList) = decide (a = b) := by
  rw [Bool.eq_iff_iff]
  simp only [beq_iff_eq, decide_eq_true_eq]
  constructor
  · intro h
    have : a.data.toList = b.data.toList := by rw [← ByteArray.toList_eq a, ← ByteArray.toList_eq b]; exact h
    cases a; cases b
    simp only [ByteArray.mk.injEq]
    exact Array.toList_inj.1 this
  · rintro rfl; rfl

theorem eqOne_run {x y : AV} {u v : Value} {r : Bool} {t : TypeId} (he : eqOne x y = some r) (hk : tkindOk P t x = true) (hu : rep ρ M noG x u) (hv : rep ρ M noG y v) (n : Nat) (w : World) : (Op.equalIn (n + 1) t u v).run P w = .ok r w := by
  unfold eqOne at he
  split at he
  · rename_i k a k' b
    split at he
    · rename_i hkk
      subst hkk
      injection he with he
      subst he
      simp only [rep] at hu hv
      subst hu; subst hv
      unfold tkindOk at hk
      simp only [] at hk
      split at hk
      · rename_i k'' hd; exact run_equalIn_int w n t k k'' a b hd
      · cases hk
    · cases he
  · injection he with he
    subst he
    simp only [rep] at hu hv
    subst hu; subst hv
    unfold tkindOk at hk
    simp only [] at hk
    split at hk
    · rename_i hd; exact run_equalIn_bool' w n t _ _ hd
    · cases hk
  · injection he with he
    subst he
    simp only [rep] at hu hv
    subst hu; subst hv
    unfold tkindOk at hk
    simp only [] at hk
    split at hk
    · rename_i hd; rw [run_equalIn_string w n t _ _ hd, toList_inj]
    · cases hk
  · cases he

/-- The value of type t that these cells make up. -/
def valOf (P : Program) (t : TypeId) (us : List Value) : Value := if tagg P t then .agg ⟨us⟩ else us.headD undef
theorem run_part (t : TypeId) (us : List Value) (off : Nat) (w : World) (hu : (P.underlying t).isSome = true) (hi : tagg P t = true → (P.info? t).isSome = true) (h1 : tagg P t = false → (us.drop off).take (tsize P t) ≠ []) :
    (part t ⟨us⟩ off).run P w = .ok (valOf P t ((us.drop off).take (tsize P t))) w := by
  unfold part valOf
  by_cases hg : tagg P t = true
  · simp only [Sem.run_bind, run_isAgg t w hu, Result.andThen_ok, hg, if_true, run_sizeOf t w (hi hg), Sem.run_pure]
    congr 2
    apply Array.ext'
    simp [List.extract_eq_take_drop]
  · have hg' : tagg P t = false := by simpa using hg
    have ht := h1 hg'
    have hlt : off < us.length := by
      rcases Nat.lt_or_ge off us.length with h | h
      · exact h
      · rw [List.drop_eq_nil_of_le h] at ht; simp at ht
    have hp : ∃ n, tsize P t = n + 1 := by
      cases hz : tsize P t with
      | zero => rw [hz] at ht; simp at ht
      | succ n => exact ⟨n, rfl⟩
    obtain ⟨n, hn⟩ := hp
    have hget : (⟨us⟩ : Array Value)[off]? = some us[off] := by simp [hlt]
    simp only [Sem.run_bind, run_isAgg t w hu, Result.andThen_ok, hg', Bool.false_eq_true, if_false, hget, Sem.run_pure, hn]
    congr 1
    rw [List.drop_eq_getElem_cons hlt]
    rfl
theorem eqTy_under {d : Nat} {t : TypeId} {xs ys : List AV} {r : Bool} (h : eqTy P d t xs ys = some r) : (P.underlying t).isSome = true ∧ (tagg P t = true → (P.info? t).isSome = true) ∧ (tagg P t = false → xs ≠ [] ∧ ys ≠ []) := by
  cases d with
  | zero => cases h
  | succ d =>
    unfold eqTy at h
    split at h
    · split at h
      · rename_i hc
        simp only [Bool.and_eq_true, Bool.not_eq_true'] at hc
        refine ⟨?_, fun hg => (by rw [hc.1] at hg; cases hg), fun _ => ⟨by simp, by simp⟩⟩
        have hk := hc.2
        unfold tkindOk at hk
        split at hk <;> first | (split at hk <;> first | (rename_i hd; rw [hd]; rfl) | cases hk) | cases hk
      · cases h
    · split at h
      · rename_i fs hd
        have hg : tagg P t = true := by unfold tagg; rw [hd]
        split at h
        · cases h
        · split at h
          · rename_i hc
            simp only [Bool.and_eq_true] at hc
            exact ⟨by rw [hd]; rfl, fun _ => hc.2, fun hf => by rw [hg] at hf; cases hf⟩
          · cases h
      · cases h
theorem repL_ne {G : Nat → Bool → Prop} {xs : List AV} {vs : List Value} (h : repL ρ M G xs vs) (hx : xs ≠ []) : vs ≠ [] := by
  intro e
  subst e
  have := repL_length h
  exact hx (List.length_eq_zero_iff.1 (by simpa using this))
theorem eqFs_run {d : Nat} (hq : ∀ (t : TypeId) (xs ys : List AV) (us vs : List Value) (r : Bool), eqTy P d t xs ys = some r → repL ρ M noG xs us → repL ρ M noG ys vs → ∀ n, d ≤ n → ∀ w, (Op.equalIn n t (valOf P t us) (valOf P t vs)).run P w = .ok r w)
    {xs ys : List AV} {us vs : List Value} (hx : repL ρ M noG xs us) (hy : repL ρ M noG ys vs) (n : Nat) (hn : d ≤ n) (w : World) :
    ∀ (fs : List Field) (r : Bool), eqFs (eqTy P d) P fs xs ys = some r → (Op.eqFields n ⟨us⟩ ⟨vs⟩ fs).run P w = .ok r w
  | [], r, h => by simp only [eqFs, Option.some.injEq] at h; subst h; simp [Op.eqFields]
  | [f], r, h => by
    simp only [eqFs] at h
    split at h
    · cases h
    · rename_i hf
      have hne : f.name ≠ "_" := by simpa using hf
      obtain ⟨h1, h2, h3⟩ := eqTy_under h
      have sx : repL ρ M noG (seg P f xs) ((us.drop f.offset).take (tsize P f.type)) := repL_take _ (repL_drop _ hx)
      have sy : repL ρ M noG (seg P f ys) ((vs.drop f.offset).take (tsize P f.type)) := repL_take _ (repL_drop _ hy)
      have e := hq _ _ _ _ _ _ h sx sy n hn w
      simp only [Op.eqFields, if_pos hne, Sem.run_bind, run_part f.type us f.offset w h1 h2 (fun hg => repL_ne sx (h3 hg).1), run_part f.type vs f.offset w h1 h2 (fun hg => repL_ne sy (h3 hg).2), Result.andThen_ok, e]
      cases r <;> simp
  | f :: g :: fs, r, h => by
    simp only [eqFs] at h
    split at h
    · cases h
    · rename_i hf
      have hne : f.name ≠ "_" := by simpa using hf
      split at h
      · rename_i ra rb ha hb
        injection h with h
        subst h
        obtain ⟨h1, h2, h3⟩ := eqTy_under ha
        have sx : repL ρ M noG (seg P f xs) ((us.drop f.offset).take (tsize P f.type)) := repL_take _ (repL_drop _ hx)
        have sy : repL ρ M noG (seg P f ys) ((vs.drop f.offset).take (tsize P f.type)) := repL_take _ (repL_drop _ hy)
        have e := hq _ _ _ _ _ _ ha sx sy n hn w
        have er := eqFs_run hq hx hy n hn w (g :: fs) rb hb
        rw [Op.eqFields]
        simp only [if_pos hne, Sem.run_bind, run_part f.type us f.offset w h1 h2 (fun hg => repL_ne sx (h3 hg).1), run_part f.type vs f.offset w h1 h2 (fun hg => repL_ne sy (h3 hg).2), Result.andThen_ok, e]
        cases ra
        · simp
        · simpa using er
      · cases h
theorem eqTy_run : ∀ (d : Nat) (t : TypeId) (xs ys : List AV) (us vs : List Value) (r : Bool), eqTy P d t xs ys = some r → repL ρ M noG xs us → repL ρ M noG ys vs → ∀ n, d ≤ n → ∀ w, (Op.equalIn n t (valOf P t us) (valOf P t vs)).run P w = .ok r w
  | 0, _, _, _, _, _, _, h, _, _, _, _, _ => by cases h
  | d + 1, t, xs, ys, us, vs, r, h, hx, hy, n, hn, w => by
    obtain ⟨m, rfl⟩ : ∃ m, n = m + 1 := ⟨n - 1, by omega⟩
    unfold eqTy at h
    split at h
    · rename_i x y
      split at h
      · rename_i hc
        simp only [Bool.and_eq_true, Bool.not_eq_true'] at hc
        cases us with
        | nil => simp [repL] at hx
        | cons u us =>
          cases vs with
          | nil => simp [repL] at hy
          | cons v vs =>
            simp only [repL] at hx hy
            simp only [valOf, hc.1, Bool.false_eq_true, if_false, List.headD_cons]
            exact eqOne_run h hc.2 hx.1 hy.1 m w
      · cases h
    · split at h
      · rename_i fs hd
        have hg : tagg P t = true := by unfold tagg; rw [hd]
        split at h
        · cases h
        · rename_i hst
          split at h
          · have hfs : P.fieldsOf t = fs := by simp [Program.fieldsOf, hd]
            simp only [valOf, hg, if_true]
            rw [run_equalIn_struct w m t ⟨us⟩ ⟨vs⟩ (by rw [hfs]; exact hd) (by simpa using hst), hfs]
            exact eqFs_run (eqTy_run d) hx hy m (by omega) w _ r h
          · cases h
      · cases h

/-! ### Elements that are put into a slice -/
def like1 (x z : AV) : Prop := x = z ∨ (x = .nils ∧ ∃ k, z = .coll ⟨k, []⟩)
theorem decObj_eq {l : List AV} {o : XObj} (h : decObj l = some o) : l = encObj o := by
  unfold decObj at h
  split at h
  · injection h with h; subst h; rfl
  · cases h
theorem decCall_eq {l : List AV} {o : XCall} (h : decCall l = some o) : l = encCall o := by
  unfold decCall at h
  split at h
  · injection h with h; subst h; rfl
  · cases h
theorem decRes_eq {l : List AV} {o : XRes} (h : decRes l = some o) : l = encRes o := by
  unfold decRes at h
  split at h
  · injection h with h; subst h; rfl
  · cases h
theorem decStrs_like {x : AV} {l : List ByteArray} (h : decStrs x = some l) : like1 x (.coll ⟨.str, l⟩) := by
  unfold decStrs at h
  split at h
  · injection h with h; subst h; exact .inl rfl
  · injection h with h; subst h; exact .inr ⟨rfl, _, rfl⟩
  · cases h
theorem decLabels_like {x : AV} {l : List XLabel} (h : decLabels x = some l) : like1 x (.coll ⟨.label, l⟩) := by
  unfold decLabels at h
  split at h
  · injection h with h; subst h; exact .inl rfl
  · injection h with h; subst h; exact .inr ⟨rfl, _, rfl⟩
  · cases h
theorem decTerms_like {x : AV} {l : List XTerm} (h : decTerms x = some l) : like1 x (.coll ⟨.term, l⟩) := by
  unfold decTerms at h
  split at h
  · injection h with h; subst h; exact .inl rfl
  · injection h with h; subst h; exact .inr ⟨rfl, _, rfl⟩
  · cases h
def likeL : List AV → List AV → Prop
  | [], [] => True
  | x :: xs, z :: zs => like1 x z ∧ likeL xs zs
  | _, _ => False
theorem likeL_refl : ∀ l : List AV, likeL l l
  | [] => trivial
  | _ :: l => ⟨.inl rfl, likeL_refl l⟩
theorem likeL_length : ∀ {l m : List AV}, likeL l m → l.length = m.length
  | [], [], _ => rfl
  | _ :: l, _ :: m, h => by simp [likeL_length h.2]
  | [], _ :: _, h => h.elim
  | _ :: _, [], h => h.elim
theorem likeL_get : ∀ {l m : List AV}, likeL l m → ∀ (j : Nat) (z : AV), m[j]? = some z → ∃ x, l[j]? = some x ∧ like1 x z
  | [], [], _, j, z, hz => by simp at hz
  | x :: l, y :: m, h, 0, z, hz => by simp at hz; subst hz; exact ⟨x, rfl, h.1⟩
  | x :: l, y :: m, h, j + 1, z, hz => by simpa using likeL_get h.2 j z (by simpa using hz)
  | [], _ :: _, h, _, _, _ => h.elim
  | _ :: _, [], h, _, _, _ => h.elim
theorem Kind.dec_like (k : Kind) {l : List AV} {y : k.Ty} (h : k.dec l = some y) : likeL l (k.enc y) := by
  have e : ∀ {m : List AV}, l = m → likeL l m := fun e => e ▸ likeL_refl _
  cases k <;> simp only [Kind.dec] at h
  case int k =>
    split at h
    · split at h
      · rename_i hk; injection h with h; subst h; subst hk; exact e rfl
      · cases h
    · cases h
  case obj => exact e (decObj_eq h)
  case call => exact e (decCall_eq h)
  case term =>
    split at h
    · obtain ⟨xs, h1, h2⟩ := Option.map_eq_some_iff.1 h
      subst h2
      exact ⟨.inl rfl, decStrs_like h1, trivial⟩
    · cases h
  case vol =>
    split at h
    · obtain ⟨xs, h1, h2⟩ := Option.map_eq_some_iff.1 h
      subst h2
      exact ⟨.inl rfl, .inl rfl, .inl rfl, .inl rfl, decStrs_like h1, trivial⟩
    · cases h
  case done =>
    split at h
    · rename_i c r hc hr
      injection h with h; subst h
      exact e (by rw [← List.take_append_drop 7 l, decCall_eq hc, decRes_eq hr]; rfl)
    · cases h
  case deed =>
    split at h
    · rename_i c t hc hr
      injection h with h; subst h
      exact e (by rw [← List.take_append_drop 7 l, decCall_eq hc, hr]; rfl)
    · cases h
  case deed2 =>
    split at h
    · rename_i c a b t i hc hr
      injection h with h; subst h
      exact e (by rw [← List.take_append_drop 7 l, decCall_eq hc, hr]; rfl)
    · cases h
  case event =>
    split at h
    · rename_i a b t hc hr
      injection h with h; subst h
      exact e (by rw [← List.take_append_drop 2 l, hc, decObj_eq hr]; rfl)
    · cases h
  case strs =>
    split at h
    · exact ⟨decStrs_like h, trivial⟩
    · cases h
  case labels =>
    split at h
    · exact ⟨decLabels_like h, trivial⟩
    · cases h
  case terms =>
    split at h
    · exact ⟨decTerms_like h, trivial⟩
    · cases h
  all_goals
    split at h
    · injection h with h; subst h; exact e rfl
    · cases h
theorem repE_like {x z : AV} {u : Value} (hl : like1 x z) (hz : (∃ c : Coll, z = .coll c) ∨ z.isSc = true) (hx : rep ρ M noG x u) : repE M z u := by
  rcases hl with rfl | ⟨rfl, k, rfl⟩
  · rcases hz with ⟨c, rfl⟩ | hs
    · exact repC_down (by simpa [rep] using hx)
    · cases x <;> simp [AV.isSc] at hs <;> simpa [repE, sc, rep] using hx
  · simp only [rep] at hx
    subst hx
    exact ⟨none, 0, rfl, Nat.le_refl _, fun h => absurd h (Nat.lt_irrefl 0)⟩
/-- What has been put together is an element of the kind. -/
theorem Kind.dec_rep (k : Kind) {l : List AV} {us : List Value} {y : k.Ty} (h : k.dec l = some y) (hr : repL ρ M noG l us) : repX M k y us := by
  have hl := k.dec_like h
  refine ⟨by rw [← repL_length hr, likeL_length hl, k.enc_length], fun j z hz => ?_⟩
  obtain ⟨x, hx, hk⟩ := likeL_get hl j z hz
  obtain ⟨u, hu, hru⟩ := repL_get hr j x hx
  exact ⟨u, hu, repE_like hk ((k.enc_cell y j z hz).imp (fun ⟨c, h, _⟩ => ⟨c, h⟩) id) hru⟩

end
end Go.Eng
