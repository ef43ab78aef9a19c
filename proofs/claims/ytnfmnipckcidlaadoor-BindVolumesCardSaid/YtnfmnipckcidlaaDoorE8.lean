/- The engine, part 8: the law of one operation. -/
import Derived.Test.YtnfmnipckcidlaaDoorE7e
set_option linter.unusedVariables false
set_option linter.unusedSimpArgs false
namespace Go.Eng
open Go.RowKit (Below)

section
variable {E : Env} {B : Nat → Prop} {w0 w : World} {M0 M : Mem} {h hr : List AObj} {ρ : Loc} {t raw0 : List AV} {a : Act}

theorem pureOut_inv {x y : AV} {effs : Eff} {need : List Prop} (h : pureOut x = some (y, effs, need)) : x = y ∧ effs = [] ∧ need = [] := by
  simp only [pureOut, Option.some.injEq, Prod.mk.injEq] at h
  exact ⟨h.1, h.2.1.symm, h.2.2.symm⟩
theorem bindOut_inv {x : Option AV} {y : AV} {effs : Eff} {need : List Prop} (h : x.bind pureOut = some (y, effs, need)) : x = some y ∧ effs = [] ∧ need = [] := by
  cases x with
  | none => cases h
  | some z =>
    obtain ⟨h1, h2, h3⟩ := pureOut_inv (by simpa using h)
    exact ⟨by rw [h1], h2, h3⟩

theorem freeze1 (H : SimH B w0 M0 h w ρ M) {id : Nat} {f : Bool} {c : Coll} (ho : hget h id = .vec f c) : ∃ M', M.le M' ∧ SimH B w0 M0 (hset h id (.vec true c)) w ρ M' := by
  cases f with
  | false => exact freeze_vec H ho
  | true =>
    have hn := H.obj id
    rw [ho] at hn
    exact ⟨M, Mem.le_refl _, H.update id _ (fun _ _ => rfl) (Loc.le_refl _) (Mem.le_refl _) hn (fun _ _ _ _ hr => ⟨hr, rfl, fun _ h => h⟩) (fun r i hr => H.own r i hr) H.mem (fun _ _ _ => rfl) (Keeps.refl _ _)⟩
theorem frzOf_mem {hr : List AObj} : ∀ {raw : List AV} {e : Nat × AObj}, e ∈ frzOf hr raw → ∃ c, hget hr e.1 = .vec false c ∧ e.2 = .vec true c
  | [], e, he => by simp [frzOf] at he
  | x :: raw, e, he => by
    unfold frzOf at he
    split at he
    · rename_i h; cases h
    · rename_i id xs h
      injection h with h1 h2
      subst h2
      split at he
      · rename_i c hc
        rcases List.mem_cons.1 he with rfl | he
        · exact ⟨c, hc, rfl⟩
        · exact frzOf_mem he
      · exact frzOf_mem he
    · rename_i y xs _ h
      injection h with h1 h2
      subst h2
      exact frzOf_mem he
theorem mem_frzOf {hr : List AObj} {id : Nat} {c : Coll} (hc : hget hr id = .vec false c) : ∀ {raw : List AV}, AV.vec id ∈ raw → (id, AObj.vec true c) ∈ frzOf hr raw
  | [], h => by cases h
  | x :: raw, h => by
    unfold frzOf
    rcases List.mem_cons.1 h with h | h
    · subst h
      simp only [hc]
      exact List.mem_cons_self
    · have ih := mem_frzOf hc h
      split
      · rename_i h'; cases h'
      · rename_i i xs h'
        injection h' with h1 h2
        subst h2
        split
        · exact List.mem_cons_of_mem _ ih
        · exact ih
      · rename_i y xs _ h'
        injection h' with h1 h2
        subst h2
        exact ih
/-- Slices are let go of. -/
theorem freezes (hr : List AObj) : ∀ (fz : Eff) (h : List AObj) (M : Mem), (∀ e ∈ fz, ∃ c, hget hr e.1 = .vec false c ∧ e.2 = .vec true c) → (∀ e ∈ fz, ∃ f c, hget h e.1 = .vec f c ∧ e.2 = .vec true c) → SimH B w0 M0 h w ρ M →
    ∃ M', M.le M' ∧ SimH B w0 M0 (applyEff h fz) w ρ M' ∧ (∀ id, (∀ e ∈ fz, e.1 ≠ id) → hget (applyEff h fz) id = hget h id) ∧ (∀ e ∈ fz, hget (applyEff h fz) e.1 = e.2)
  | [], h, M, _, _, H => ⟨M, Mem.le_refl _, H, fun _ _ => rfl, fun e he => by cases he⟩
  | (id, o) :: fz, h, M, hq, hh, H => by
    obtain ⟨f, c, h1, h2⟩ := hh (id, o) List.mem_cons_self
    simp only at h1 h2
    subst h2
    obtain ⟨M1, l1, H1⟩ := freeze1 H h1
    have hsame : ∀ e ∈ fz, e.1 = id → e.2 = .vec true c := by
      intro e he hid
      obtain ⟨c1, q1, q2⟩ := hq e (List.mem_cons_of_mem _ he)
      obtain ⟨c2, q3, q4⟩ := hq (id, .vec true c) List.mem_cons_self
      simp only at q3 q4
      rw [hid, q3] at q1
      injection q1 with _ q1
      rw [q2, ← q1]
      exact q4.symm
    obtain ⟨M2, l2, H2, g1, g2⟩ := freezes hr fz (hset h id (.vec true c)) M1 (fun e he => hq e (List.mem_cons_of_mem _ he)) (fun e he => by
      obtain ⟨f', c', q1, q2⟩ := hh e (List.mem_cons_of_mem _ he)
      rw [hget_hset]
      by_cases hid : id = e.1
      · rw [if_pos hid]; exact ⟨true, c, rfl, hsame e he hid.symm⟩
      · rw [if_neg hid]; exact ⟨f', c', q1, q2⟩) H1
    refine ⟨M2, Mem.le_trans l1 l2, H2, fun i hi => ?_, fun e he => ?_⟩
    · have := g1 i fun e he => hi e (List.mem_cons_of_mem _ he)
      simp only [applyEff, List.foldl_cons] at this ⊢
      rw [this, hget_hset, if_neg (hi (id, .vec true c) List.mem_cons_self)]
    · rcases List.mem_cons.1 he with rfl | he
      · by_cases hx : ∃ e ∈ fz, e.1 = id
        · obtain ⟨e, he, hid⟩ := hx
          have := g2 e he
          simp only [applyEff, List.foldl_cons] at this ⊢
          rw [hid] at this; rw [this]; exact hsame e he hid
        · have := g1 id fun e he hh => hx ⟨e, he, hh⟩
          simp only [applyEff, List.foldl_cons] at this ⊢
          rw [this, hget_hset, if_pos rfl]
      · exact g2 e he
theorem repL_coerceF {hf : List AObj} (H : SimH B w0 M0 hf w ρ M) (hq : ∀ id f c, hget hr id = .vec f c → AV.vec id ∈ raw0 → hget hf id = .vec true c) : ∀ {xs : List AV} {vs : List Value}, (∀ x ∈ xs, x ∈ raw0) → repL ρ M noG xs vs → repL ρ M noG (xs.map (coerceF hr)) vs
  | [], [], _, _ => by simp [repL]
  | x :: xs, v :: vs, hm, hx => by
    simp only [repL] at hx
    simp only [List.map_cons, repL]
    refine ⟨?_, repL_coerceF H hq (fun y hy => hm y (List.mem_cons_of_mem _ hy)) hx.2⟩
    unfold coerceF
    split
    · rename_i id
      split
      · rename_i f c hc
        have hv := hq id f c hc (hm _ List.mem_cons_self)
        have hobj := H.obj id
        rw [hv] at hobj
        obtain ⟨hh, g1, g2⟩ := hobj
        have h1 := hx.1
        simp only [rep] at h1 ⊢
        have h1 := h1.2
        rw [g1] at h1
        injection h1 with h1
        injection h1 with h1
        subst h1
        exact g2.repC
      · exact hx.1
    · exact hx.1
  | [], _ :: _, _, h => by simp [repL] at h
  | _ :: _, [], _, h => by simp [repL] at h
theorem applyEff_append (h : List AObj) (a b : Eff) : applyEff h (a ++ b) = applyEff (applyEff h a) b := by simp [applyEff]
/-- A call: what is known of the function. -/
theorem evCall_sound (hK : KOk E) {nid : Nat} {g : FuncId} {raw cap : List AV} {x : AV} {effs : Eff} {need : List Prop} (he : evCall E g raw cap hr nid = some (x, effs, need)) (hn : ∀ p ∈ need, p) (H : SimH B w0 M0 h w ρ M)
    (hle : ∀ id, hget hr id ≠ .dead → hget h id = hget hr id) (hfr : ∀ p ∈ effs, nid ≤ p.1 → ρ p.1 = none) {us cvs : List Value} (hraw : repL ρ M noG raw us) (hcap : repL ρ M noG cap cvs) :
    (∀ (vs : Array Value) (w : World), (callFunc g vs).run E.P w = .ok (.enter g vs) w) ∧
    Calls E.P g ⟨us ++ cvs⟩ w fun e w' => ∃ v ρ' M', e = .returned v ∧ ρ.only ρ' effs ∧ M.le M' ∧ SimH B w0 M0 (applyEff h effs) w' ρ' M' ∧ rep ρ' M' noG x v := by
  unfold evCall at he
  split at he
  · rename_i o ho
    injection he with he
    subst he
    exact ⟨fun vs w => hK.enters _ _ _ _ _ ho vs w, hK.sound _ _ _ _ _ _ _ ho hn B w0 M0 h w ρ M _ H hle hfr (repL_append (repL_coerce H hle hraw) hcap)⟩
  · split at he
    · cases he
    · rename_i fz hfz hfz'
      split at he
      · rename_i x' effs' need' hk
        simp only [Option.some.injEq, Prod.mk.injEq] at he
        obtain ⟨rfl, rfl, rfl⟩ := he
        have hq1 : ∀ e ∈ frzOf hr raw, ∃ c, hget hr e.1 = .vec false c ∧ e.2 = .vec true c := fun e he => frzOf_mem he
        have hq2 : ∀ e ∈ frzOf hr raw, ∃ f c, hget h e.1 = .vec f c ∧ e.2 = .vec true c := fun e he => by
          obtain ⟨c, q1, q2⟩ := hq1 e he
          exact ⟨false, c, by rw [hle e.1 (by rw [q1]; simp)]; exact q1, q2⟩
        obtain ⟨M1, l1, H1, g1, g2⟩ := freezes hr (frzOf hr raw) h M hq1 hq2 H
        have k1 : ∀ id, (∀ e ∈ frzOf hr raw, e.1 ≠ id) → hget (applyEff hr (frzOf hr raw)) id = hget hr id := by
          have : ∀ (fz : Eff) (h : List AObj) (id : Nat), (∀ e ∈ fz, e.1 ≠ id) → hget (applyEff h fz) id = hget h id := by
            intro fz
            induction fz with
            | nil => intro h id _; rfl
            | cons e fz ih =>
              intro h id hne
              simp only [applyEff, List.foldl_cons]
              have := ih (hset h e.1 e.2) id fun e' he' => hne e' (List.mem_cons_of_mem _ he')
              simp only [applyEff] at this
              rw [this, hget_hset, if_neg (hne e List.mem_cons_self)]
          exact this _ hr
        have k2 : ∀ e ∈ frzOf hr raw, hget (applyEff hr (frzOf hr raw)) e.1 = e.2 := by
          have : ∀ (fz : Eff) (h : List AObj), (∀ e ∈ fz, ∃ c, hget hr e.1 = .vec false c ∧ e.2 = .vec true c) → ∀ e ∈ fz, hget (applyEff h fz) e.1 = e.2 := by
            intro fz
            induction fz with
            | nil => intro h _ e he; cases he
            | cons d fz ih =>
              intro h hq e he
              simp only [applyEff, List.foldl_cons]
              rcases List.mem_cons.1 he with rfl | he
              · by_cases hx : ∃ e' ∈ fz, e'.1 = e.1
                · obtain ⟨e', he', hid⟩ := hx
                  have h1 := ih (hset h e.1 e.2) (fun e he => hq e (List.mem_cons_of_mem _ he)) e' he'
                  obtain ⟨c1, q1, q2⟩ := hq e List.mem_cons_self
                  obtain ⟨c2, q3, q4⟩ := hq e' (List.mem_cons_of_mem _ he')
                  rw [hid, q1] at q3
                  injection q3 with _ q3
                  simp only [applyEff] at h1
                  rw [hid] at h1; rw [h1, q4, q2, q3]
                · have : ∀ (fz : Eff) (h : List AObj) (id : Nat), (∀ e ∈ fz, e.1 ≠ id) → hget (applyEff h fz) id = hget h id := by
                    intro fz
                    induction fz with
                    | nil => intro h id _; rfl
                    | cons e fz ih =>
                      intro h id hne
                      simp only [applyEff, List.foldl_cons]
                      have := ih (hset h e.1 e.2) id fun e' he' => hne e' (List.mem_cons_of_mem _ he')
                      simp only [applyEff] at this
                      rw [this, hget_hset, if_neg (hne e List.mem_cons_self)]
                  have := this fz (hset h e.1 e.2) e.1 fun e' he' hh => hx ⟨e', he', hh⟩
                  simp only [applyEff] at this
                  rw [this, hget_hset, if_pos rfl]
              · exact ih _ (fun e he => hq e (List.mem_cons_of_mem _ he)) e he
          exact this _ hr hq1
        have hle1 : ∀ id, hget (applyEff hr (frzOf hr raw)) id ≠ .dead → hget (applyEff h (frzOf hr raw)) id = hget (applyEff hr (frzOf hr raw)) id := by
          intro id hd
          by_cases hx : ∃ e ∈ frzOf hr raw, e.1 = id
          · obtain ⟨e, he, rfl⟩ := hx
            rw [g2 e he, k2 e he]
          · have hne : ∀ e ∈ frzOf hr raw, e.1 ≠ id := fun e he hh => hx ⟨e, he, hh⟩
            rw [g1 id hne, k1 id hne]
            rw [k1 id hne] at hd
            exact hle id hd
        have hF := repL_coerceF (hr := hr) (raw0 := raw) H1 (fun id f c hc hm => by
          cases f with
          | false => exact g2 _ (mem_frzOf hc hm)
          | true =>
            rw [g1 id fun e he hh => by
              obtain ⟨c1, q1, _⟩ := hq1 e he
              rw [hh, hc] at q1
              injection q1 with q1
              cases q1]
            rw [hle id (by rw [hc]; simp)]; exact hc) (fun x hx => hx) (repL_mono (Loc.le_refl _) l1 (fun _ _ h => h) _ _ hraw)
        have hs := hK.sound _ _ _ _ _ _ _ hk hn B w0 M0 _ w ρ M1 _ H1 hle1 (fun p hp hlt => hfr p (List.mem_append_right _ hp) hlt) (repL_append hF (repL_mono (Loc.le_refl _) l1 (fun _ _ h => h) _ _ hcap))
        refine ⟨fun vs w => hK.enters _ _ _ _ _ hk vs w, hs.mono ?_⟩
        rintro e w' ⟨v, ρ', M', he, h1, h2, h3, h4⟩
        exact ⟨v, ρ', M', he, Loc.only_more h1 fun e he => List.mem_append_right _ he, Mem.le_trans l1 h2, by rw [applyEff_append]; exact h3, h4⟩
      · cases he

theorem evOp_sound (hK : KOk E) {nid : Nat} {o : Oper} {x : AV} {effs : Eff} {need : List Prop} (he : evOp E t hr nid o = some (x, effs, need)) (hn : ∀ p ∈ need, p) (H : SimH B w0 M0 h w ρ M)
    (hle : ∀ id, hget hr id ≠ .dead → hget h id = hget hr id) (hfr : ∀ p ∈ effs, nid ≤ p.1 → ρ p.1 = none) (ht : ∀ i, rep ρ M noG (t.getD i .unk) (a.eval (.tmp i))) :
    Does B w0 M0 E.P o a w h ρ M x effs := by
  obtain ⟨dst, op, ty, pos, after, guard⟩ := o
  have nilCase : ∀ y : Operand, (if isNilc y = true then nilVec E ty nid else pureOut (opd t y)) = some (x, effs, need) → (execOp a.eval { dst := dst, op := op, type := ty, pos := pos, after := after, guard := guard }).run E.P w = .ok (.value (a.eval y)) w →
      Does B w0 M0 E.P { dst := dst, op := op, type := ty, pos := pos, after := after, guard := guard } a w h ρ M x effs := by
    intro y he hrun
    split at he
    · rename_i hnil
      have hy : a.eval y = .slice none 0 0 := by
        unfold isNilc at hnil
        split at hnil
        · rfl
        · cases hnil
      unfold nilVec at he
      split at he
      · split at he
        · rename_i k hk
          simp only [Option.some.injEq, Prod.mk.injEq] at he
          obtain ⟨rfl, rfl, rfl⟩ := he
          have hid := hfr (nid, _) (List.mem_singleton_self _) (Nat.le_refl _)
          obtain ⟨ρ', n1, n2, n3⟩ := new_nil H hid (!E.wr) k
          exact does_value (by rw [hrun, hy]) n1 (Mem.le_refl _) n2 n3
        · obtain ⟨rfl, rfl, _⟩ := pureOut_inv he
          exact does_pure H hrun (by simp only [rep]; exact hy)
      · obtain ⟨rfl, rfl, _⟩ := pureOut_inv he
        exact does_pure H hrun (by simp only [rep]; exact hy)
    · obtain ⟨rfl, rfl, _⟩ := pureOut_inv he
      exact does_pure H hrun (rep_opd ht y)
  cases op <;> simp only [evOp] at he
  case move y => exact nilCase y he rfl
  case assign y => exact nilCase y he rfl
  case alloc e =>
    cases hz : tzero E.P e with
    | none => rw [hz] at he; cases he
    | some z =>
      rw [hz] at he
      simp only [Option.some.injEq] at he
      have plain : (AV.ptr nid 0, [(nid, AObj.cells e z.cells)], ([] : List Prop)) = (x, effs, need) → Does B w0 M0 E.P { dst := dst, op := .alloc e, type := ty, pos := pos, after := after, guard := guard } a w h ρ M x effs := by
        intro he
        simp only [Prod.mk.injEq] at he
        obtain ⟨rfl, rfl, rfl⟩ := he
        have hid := hfr (nid, _) (List.mem_singleton_self _) (Nat.le_refl _)
        obtain ⟨w', hrun, H'⟩ := alloc_new (P := E.P) H hz hid
        exact does_value (by simp only [execOp, Sem.run_bind, hrun, Result.andThen_ok, Sem.run_pure]) (Loc.only_put hid _ _ (List.mem_singleton_self _)) (Mem.le_refl _) H' rep_put_ptr
      unfold evAlloc at he
      split at he
      · rename_i off k _
        split at he
        · rename_i hoff
          simp only [Prod.mk.injEq] at he
          obtain ⟨rfl, rfl, rfl⟩ := he
          have hid := hfr (nid, _) (List.mem_cons_of_mem _ List.mem_cons_self) (Nat.le_refl _)
          have hid1 := hfr (nid + 1, _) List.mem_cons_self (Nat.le_succ _)
          simp only at hid hid1
          obtain ⟨ρ1, n1, n2, n3⟩ := new_nil H hid1 (!E.wr) k
          have hid' : ρ1 nid = none := by rw [n1.2 nid (fun e he => by simp only [List.mem_singleton] at he; subst he; show nid + 1 ≠ nid; omega)]; exact hid
          obtain ⟨w', hrun, H'⟩ := alloc_nil (P := E.P) n2 hz hid' hoff n3
          refine does_value (ρ' := ρ1.put nid (.blk w.heap.size) w.heap.size) (by simp only [execOp, Sem.run_bind, hrun, Result.andThen_ok, Sem.run_pure]) ⟨Loc.le_trans n1.1 (Loc.le_put hid'), fun i hi => ?_⟩ (Mem.le_refl _) H' rep_put_ptr
          have h1 := hi (nid, _) (List.mem_cons_of_mem _ List.mem_cons_self)
          have h2 := hi (nid + 1, _) List.mem_cons_self
          rw [show (ρ1.put nid (.blk w.heap.size) w.heap.size) i = ρ1 i from if_neg fun e => h1 e.symm]
          exact n1.2 i (fun e he => by simp only [List.mem_singleton] at he; subst he; exact h2)
        · exact plain he
      · exact plain he
  case box e y =>
    split at he
    · rename_i h1
      simp only [Option.some.injEq, Prod.mk.injEq] at he
      obtain ⟨rfl, rfl, rfl⟩ := he
      have hid := hfr (nid, _) (List.mem_singleton_self _) (Nat.le_refl _)
      obtain ⟨w', hrun, H'⟩ := box_new (P := E.P) (t := e) H (rep_opd ht y) h1 hid
      exact does_value (by simp only [execOp, Sem.run_bind, hrun, Result.andThen_ok, Sem.run_pure]) (Loc.only_put hid _ _ (List.mem_singleton_self _)) (Mem.le_refl _) H' rep_put_ptr
    · cases he
  case build bt ps =>
    split at he
    · rename_i z pl hz hpl
      split at he
      case isFalse => cases he
      rename_i hones
      split at he
      · rename_i cs hcs
        obtain ⟨rfl, rfl, _⟩ := pureOut_inv he
        unfold tzero at hz
        cases hi : E.P.info? bt with
        | none => rw [hi] at hz; cases hz
        | some i =>
          rw [hi] at hz
          simp only [Option.bind_some] at hz
          cases hzz : i.zero with
          | none => rw [hzz] at hz; cases hz
          | some zv =>
            rw [hzz] at hz
            injection hz with hz
            have hcz := cells_avOf (ρ := ρ) (M := M) zv
            rw [hz] at hcz
            unfold placesOf at hpl
            split at hpl
            · rename_i fs hd
              split at hpl
              · rename_i hall
                injection hpl with hpl
                have hmap : (fs.mapM fun f => do pure (f.offset, ← sizeOf f.type) : Sem (Array (Nat × Nat))).run E.P w = .ok pl.toArray w := by
                  subst hpl
                  rw [← Array.toArray_toList (xs := fs)]
                  rw [List.mapM_toArray]
                  simp only [Sem.run_map]
                  have : ∀ l : List Field, l.all (fun f => (E.P.info? f.type).isSome) = true → (l.mapM fun f => do pure (f.offset, ← sizeOf f.type) : Sem (List (Nat × Nat))).run E.P w = .ok (l.map fun f => (f.offset, tsize E.P f.type)) w := by
                    intro l
                    induction l with
                    | nil => intro _; simp
                    | cons f l ih =>
                      intro hl
                      simp only [List.all_cons, Bool.and_eq_true] at hl
                      simp only [List.mapM_cons, Sem.run_bind, run_sizeOf f.type w hl.1, Result.andThen_ok, Sem.run_pure, ih hl.2, List.map_cons]
                  rw [this fs.toList hall]
                  simp
                obtain ⟨vs, hfill, hvs⟩ := fill_run (ρ := ρ) (M := M) (ps.toList.map fun p => (p.1, opd t p.2)) (ps.toList.map fun p => (p.1, a.eval p.2)) z zv.cells.toList cs hcs hcz (by simp) (fun j p u h1 h2 => by
                  rw [List.getElem?_map] at h1 h2
                  cases hj : ps.toList[j]? with
                  | none => rw [hj] at h1; cases h1
                  | some q =>
                    rw [hj] at h1 h2
                    simp only [Option.map_some, Option.some.injEq] at h1 h2
                    subst h1; subst h2
                    refine ⟨rfl, ?_⟩
                    exact (one_cellsL (List.all_eq_true.1 hones q (List.mem_of_getElem? hj)) (rep_opd ht q.2)).1)
                refine does_pure H (v := .agg ⟨vs⟩) ?_ (by simp only [rep]; exact ⟨vs, rfl, hvs⟩)
                simp only [execOp, Sem.run_bind, Instr.build, run_zeroValue hi hzz, Result.andThen_ok, run_underlying hd, hmap]
                have hfill' : Instr.fill (fun i => pl.toArray[i]?) zv.cells (ps.map fun x => (x.1, a.eval x.2)).toList = some ⟨vs⟩ := by
                  simpa using hfill
                rw [hfill']
                rfl
              · cases hpl
            · cases hpl
      · cases he
    · cases he
  case load lt ad =>
    have hp := rep_opd ht ad
    split at he
    · rename_i id off hv
      rw [hv] at hp
      split at he
      · rename_i ct cs hcs
        obtain ⟨hx, rfl, _⟩ := bindOut_inv he
        obtain ⟨u, hrun, hr⟩ := load_ptr (P := E.P) H (by rw [hle id (by rw [hcs]; simp)]; exact hcs) hx hp
        exact does_pure H (by simp only [execOp, Sem.run_bind, hrun, Result.andThen_ok, Sem.run_pure]) hr
      · cases he
    · rename_i c i off hv
      rw [hv] at hp
      obtain ⟨hx, rfl, _⟩ := bindOut_inv he
      obtain ⟨u, hrun, hr⟩ := load_ep (P := E.P) H hx hp
      exact does_pure H (by simp only [execOp, Sem.run_bind, hrun, Result.andThen_ok, Sem.run_pure]) hr
    · rename_i id esz i off hv
      rw [hv] at hp
      split at he
      · rename_i f c hc
        split at he
        · rename_i he2
          subst he2
          obtain ⟨hx, rfl, _⟩ := bindOut_inv he
          obtain ⟨u, hrun, hr⟩ := load_evp (P := E.P) H (by rw [hle id (by rw [hc]; simp)]; exact hc) hx hp
          exact does_pure H (by simp only [execOp, Sem.run_bind, hrun, Result.andThen_ok, Sem.run_pure]) hr
        · cases he
      · cases he
    · cases he
  case store st ad y =>
    have hp := rep_opd ht ad
    have hy := rep_opd ht y
    split at he
    · rename_i id off hv
      rw [hv] at hp
      split at he
      · rename_i ct cs hcs
        split at he
        · rename_i hc
          simp only [Option.some.injEq, Prod.mk.injEq] at he
          obtain ⟨rfl, rfl, rfl⟩ := he
          obtain ⟨w', hrun, H'⟩ := store_ptr (P := E.P) H (by rw [hle id (by rw [hcs]; simp)]; exact hcs) hp hy hc.1 hc.2.1 hc.2.2.1 hc.2.2.2
          exact does_skip (by simp only [execOp, Sem.run_bind, hrun, Result.andThen_ok, Sem.run_pure]) (Loc.only_refl _ _) (Mem.le_refl _) H'
        · cases he
      · cases he
    · rename_i id esz i off hv
      rw [hv] at hp
      split at he
      · rename_i c hcs
        split at he
        · rename_i hc
          obtain ⟨q1, q2, q3, q4, rfl⟩ := hc
          split at he
          · rename_i z hz
            simp only [Option.some.injEq, Prod.mk.injEq] at he
            obtain ⟨rfl, rfl, rfl⟩ := he
            obtain ⟨w', hrun, H'⟩ := store_evp (P := E.P) H (by rw [hle id (by rw [hcs]; simp)]; exact hcs) hp hy q1 q2 q3 q4 hz
            exact does_skip (by simp only [execOp, Sem.run_bind, hrun, Result.andThen_ok, Sem.run_pure]) (Loc.only_refl _ _) (Mem.le_refl _) H'
          · cases he
        · cases he
      · cases he
    · cases he
  case nilCheck y =>
    have hp := rep_opd ht y
    split at he
    · rename_i id off hv
      rw [hv] at hp
      obtain ⟨rfl, rfl, _⟩ := pureOut_inv he
      have hp' := hp
      simp only [rep] at hp'
      obtain ⟨r, _, hval⟩ := hp'
      exact does_pure H (v := a.eval y) (by simp only [execOp, hval]; rfl) hp
    · rename_i c i off hv
      rw [hv] at hp
      obtain ⟨rfl, rfl, _⟩ := pureOut_inv he
      have hp' := hp
      simp only [rep] at hp'
      obtain ⟨_, _, b, o, hval, _⟩ := hp'
      exact does_pure H (v := a.eval y) (by simp only [execOp, hval]; rfl) hp
    · rename_i id esz i off hv
      rw [hv] at hp
      obtain ⟨rfl, rfl, _⟩ := pureOut_inv he
      have hp' := hp
      simp only [rep] at hp'
      obtain ⟨_, _, _, _, _, _, hval⟩ := hp'
      exact does_pure H (v := a.eval y) (by simp only [execOp, hval]; rfl) hp
    · rename_i f cap hv
      rw [hv] at hp
      obtain ⟨rfl, rfl, _⟩ := pureOut_inv he
      have hp' := hp
      simp only [rep] at hp'
      obtain ⟨vs, hval, _⟩ := hp'
      exact does_pure H (v := a.eval y) (by simp only [execOp, hval]; rfl) hp
    · cases he
  case binOp op xt y z yt =>
    cases hb : evBin E.P op xt (opd t y) (opd t z) with
    | none => rw [hb] at he; cases he
    | some r =>
      rw [hb] at he
      simp only [Option.map_some, Option.some.injEq, Prod.mk.injEq] at he
      obtain ⟨rfl, rfl, rfl⟩ := he
      obtain ⟨u, hrun, hr⟩ := evBin_run (p := y) (q := z) hb hn (rep_opd ht y) (rep_opd ht z) w
      exact does_pure H (by simp only [execOp]; rw [Sem.run_bind, hrun]; rfl) hr
  case unOp op xt y =>
    have hp := rep_opd ht y
    cases op <;> simp only at he
    case not =>
      split at he
      · rename_i b hv
        rw [hv] at hp
        obtain ⟨rfl, rfl, _⟩ := pureOut_inv he
        simp only [rep] at hp
        exact does_pure H (v := .bool (!b)) (by simp only [execOp, hp]; rfl) (by simp [rep])
      · cases he
    case neg =>
      split at he
      · rename_i k n hv
        rw [hv] at hp
        obtain ⟨rfl, rfl, _⟩ := pureOut_inv he
        simp only [rep] at hp
        exact does_pure H (v := .int k (k.wrap (0 - n))) (by simp only [execOp, hp]; rfl) (by simp [rep])
      · cases he
    all_goals cases he
  case convert src dt y =>
    have hp := rep_opd ht y
    split at he
    · rename_i k0 k q n hs hd hv
      rw [hv] at hp
      obtain ⟨rfl, rfl, _⟩ := pureOut_inv he
      simp only [rep] at hp
      exact does_pure H (v := .int k (k.wrap n)) (by simp only [execOp, hp, Sem.run_bind, convert, run_underlying hs, run_underlying hd, Result.andThen_ok, Conv.intToInt, Sem.run_pure]) (by simp [rep])
    · rename_i s hs hd hv
      rw [hv] at hp
      obtain ⟨rfl, rfl, _⟩ := pureOut_inv he
      simp only [rep] at hp
      exact does_pure H (v := .string s) (by simp only [execOp, hp, Sem.run_bind, convert, run_underlying hs, run_underlying hd, Result.andThen_ok, Sem.run_pure]) (by simp [rep])
    · cases he
  case makeFunc fn first cap =>
    cases fn <;> simp only at he
    case func f =>
      split at he
      · rename_i h0
        obtain ⟨rfl, rfl, _⟩ := pureOut_inv he
        have hf : first = #[] := by simpa using h0
        subst hf
        refine does_pure H (v := .func (.func f) #[] ⟨cap.toList.map a.eval⟩) ?_ (by simp only [rep]; exact ⟨_, rfl, repL_opd ht _⟩)
        have hm : cap.map a.eval = ⟨cap.toList.map a.eval⟩ := by apply Array.ext'; simp
        simp only [execOp, Instr.makeFunc, Sem.run_bind, Sem.run_pure, Result.andThen_ok, hm]
        simp
      · cases he
    all_goals cases he
  case makeInterface mt y =>
    have hp := rep_opd ht y
    split at he
    · cases he
    · rename_i d hni hd
      obtain ⟨rfl, rfl, _⟩ := pureOut_inv he
      refine does_pure H (v := .iface mt (a.eval y)) ?_ (by simp only [rep]; exact ⟨_, rfl, hp⟩)
      simp only [execOp, Instr.makeInterface, Sem.run_bind, run_underlying hd, Result.andThen_ok]
      cases d <;> first | rfl | exact absurd hd (hni _)
    · cases he
  case fieldAddr s y f =>
    have hp := rep_opd ht y
    split at he
    · rename_i off ft hf
      split at he
      · cases he
      · rename_i hz
        split at he
        · rename_i id o hv
          rw [hv] at hp
          obtain ⟨rfl, rfl, _⟩ := pureOut_inv he
          obtain ⟨u, hrun, hr⟩ := fieldAddr_rep (P := E.P) (w := w) hf hz hp
          exact does_pure H (by simp only [execOp, Sem.run_bind, hrun, Result.andThen_ok, Sem.run_pure]) hr
        · rename_i c i o hv
          rw [hv] at hp
          split at he
          · rename_i hle'
            obtain ⟨rfl, rfl, _⟩ := pureOut_inv he
            obtain ⟨u, hrun, hr⟩ := fieldAddr_ep (P := E.P) (w := w) hf hz hle' hp
            exact does_pure H (by simp only [execOp, Sem.run_bind, hrun, Result.andThen_ok, Sem.run_pure]) hr
          · cases he
        · rename_i id esz i o hv
          rw [hv] at hp
          split at he
          · rename_i hle'
            obtain ⟨rfl, rfl, _⟩ := pureOut_inv he
            obtain ⟨u, hrun, hr⟩ := fieldAddr_evp (P := E.P) (w := w) hf hz hle' hp
            exact does_pure H (by simp only [execOp, Sem.run_bind, hrun, Result.andThen_ok, Sem.run_pure]) hr
          · cases he
        · cases he
    · cases he
  case indexAddr it y ix =>
    split at he
    · rename_i e c k i hu hv hix
      have hp := repC_vec H hle (rep_opd ht y)
      rw [hv] at hp
      have hi := rep_opd ht ix
      rw [hix] at hi
      simp only [rep] at hi
      split at he
      · rename_i hc
        simp only [Option.some.injEq, Prod.mk.injEq] at he
        obtain ⟨rfl, rfl, rfl⟩ := he
        obtain ⟨u, hrun, hr⟩ := indexAddr_coll (P := E.P) (w := w) (k := k) hu hc.1 hc.2 (hn _ (List.mem_singleton_self _)).1 (hn _ (List.mem_singleton_self _)).2 hp
        exact does_pure H (by simp only [execOp, hi, Sem.run_bind, hrun, Result.andThen_ok, Sem.run_pure]) hr
      · cases he
    · rename_i e id k i hu hv hix
      have hp := repC_vec H hle (rep_opd ht y)
      rw [hv] at hp
      have hi := rep_opd ht ix
      rw [hix] at hi
      simp only [rep] at hi
      split at he
      · rename_i f c hcs
        split at he
        · rename_i hc
          simp only [Option.some.injEq, Prod.mk.injEq] at he
          obtain ⟨rfl, rfl, rfl⟩ := he
          obtain ⟨u, hrun, hr⟩ := indexAddr_vec (P := E.P) (w := w) (k := k) H (by rw [hle id (by rw [hcs]; simp)]; exact hcs) hu hc.1 hc.2 (hn _ (List.mem_singleton_self _)).1 (hn _ (List.mem_singleton_self _)).2 hp
          exact does_pure H (by simp only [execOp, hi, Sem.run_bind, hrun, Result.andThen_ok, Sem.run_pure]) hr
        · cases he
      · cases he
    · rename_i m e id o k i hu hv hix
      have hp := repC_vec H hle (rep_opd ht y)
      rw [hv] at hp
      have hi := rep_opd ht ix
      rw [hix] at hi
      simp only [rep] at hi
      split at he
      · rename_i hc
        simp only [Option.some.injEq, Prod.mk.injEq] at he
        obtain ⟨rfl, rfl, rfl⟩ := he
        obtain ⟨u, hrun, hr⟩ := indexAddr_arr (P := E.P) (w := w) (k := k) hu hc (hn _ (List.mem_singleton_self _)).1 (hn _ (List.mem_singleton_self _)).2 hp
        exact does_pure H (by simp only [execOp, hi, Sem.run_bind, hrun, Result.andThen_ok, Sem.run_pure]) hr
      · cases he
    · cases he
  case index it y ix =>
    split at he
    · rename_i s k i hu hv hix
      have hp := rep_opd ht y
      rw [hv] at hp
      have hi := rep_opd ht ix
      rw [hix] at hi
      simp only [rep] at hi hp
      simp only [Option.some.injEq, Prod.mk.injEq] at he
      obtain ⟨rfl, rfl, rfl⟩ := he
      exact does_pure H (v := .int .u8 (byteAt s i)) (by simp only [execOp, hi, hp, Sem.run_bind, run_index_string hu (hn _ (List.mem_singleton_self _)).1 (hn _ (List.mem_singleton_self _)).2, Result.andThen_ok, Sem.run_pure]) (by simp [rep])
    · cases he
  case extract y ix =>
    have hp := rep_opd ht y
    split at he
    · rename_i vs hv
      rw [hv] at hp
      obtain ⟨hx, rfl, _⟩ := bindOut_inv he
      simp only [rep] at hp
      obtain ⟨us, hval, hus⟩ := hp
      obtain ⟨u, hu, hr⟩ := repL_get hus ix _ hx
      exact does_pure H (v := u) (by simp only [execOp, hval, Sem.run_bind, Instr.extract]; simp [hu]) hr
    · rename_i b i r hv
      rw [hv] at hp
      simp only [rep] at hp
      split at he
      · obtain ⟨rfl, rfl, _⟩ := pureOut_inv he
        refine does_pure H (v := .bool b) ?_ (by simp [rep])
        cases b <;> simp [execOp, hp, Instr.extract]
      · simp only [Option.some.injEq, Prod.mk.injEq] at he
        obtain ⟨rfl, rfl, rfl⟩ := he
        have hb : b = true := hn _ (List.mem_singleton_self _)
        subst hb
        exact does_pure H (v := .int .i64 i) (by simp [execOp, hp, Instr.extract]) (by simp [rep])
      · simp only [Option.some.injEq, Prod.mk.injEq] at he
        obtain ⟨rfl, rfl, rfl⟩ := he
        have hb : b = true := hn _ (List.mem_singleton_self _)
        subst hb
        exact does_pure H (v := .int .i32 r) (by simp [execOp, hp, Instr.extract]) (by simp [rep])
      · cases he
    · cases he
  case range xt y =>
    have hp := rep_opd ht y
    split at he
    · rename_i s hu hv
      rw [hv] at hp
      simp only [rep] at hp
      simp only [Option.some.injEq, Prod.mk.injEq] at he
      obtain ⟨rfl, rfl, rfl⟩ := he
      have hid := hfr (nid, _) (List.mem_singleton_self _) (Nat.le_refl _)
      exact does_value (by simp only [execOp, hp, Sem.run_bind, run_range_string w xt s hu, Result.andThen_ok, Sem.run_pure]) (Loc.only_put hid _ _ (List.mem_singleton_self _)) (Mem.le_refl _) (SimH.allocIter H nid hid s) rep_put_ptr
    · cases he
  case next it isS =>
    cases isS
    · cases he
    simp only at he
    unfold evNext at he
    have hp := rep_opd ht it
    split at he
    · rename_i id off hv
      rw [hv] at hp
      split at he
      · rename_i hoff
        subst hoff
        split at he
        · rename_i s pos hs
          simp only [Option.some.injEq, Prod.mk.injEq] at he
          obtain ⟨rfl, rfl, rfl⟩ := he
          obtain ⟨v, w', hrun, hv', H'⟩ := next_run (P := E.P) H (by rw [hle id (by rw [hs]; simp)]; exact hs) hp ty
          exact does_value (by simp only [execOp, Sem.run_bind, hrun, Result.andThen_ok, Sem.run_pure]) (Loc.only_refl _ _) (Mem.le_refl _) H' hv'
        · cases he
      · cases he
    · cases he
  case field s y f =>
    have hp := rep_opd ht y
    split at he
    · rename_i off ft cs hf hv
      rw [hv] at hp
      obtain ⟨hx, rfl, _⟩ := bindOut_inv he
      simp only [rep] at hp
      obtain ⟨us, hval, hus⟩ := hp
      unfold fieldOff at hf
      split at hf
      · rename_i fs hd
        cases hfs : fs[f]? with
        | none => rw [hfs] at hf; cases hf
        | some fd =>
          rw [hfs] at hf
          simp only [Option.map_some, Option.some.injEq, Prod.mk.injEq] at hf
          obtain ⟨rfl, rfl⟩ := hf
          have hx' := hx
          unfold loadFrom at hx
          split at hx
          case isFalse => cases hx
          rename_i hui
          obtain ⟨hu, hi⟩ : (E.P.underlying fd.type).isSome = true ∧ (E.P.info? fd.type).isSome = true := by simpa using hui
          by_cases hg : tagg E.P fd.type = true
          · rw [if_pos hg] at hx
            split at hx
            · injection hx with hx
              subst hx
              refine does_pure H (v := .agg ⟨(us.drop fd.offset).take (tsize E.P fd.type)⟩) ?_ (by simp only [rep]; exact ⟨_, rfl, repL_take _ (repL_drop _ hus)⟩)
              have hpart := run_part (P := E.P) fd.type us fd.offset w hu (fun _ => hi) (fun hf => by rw [hg] at hf; cases hf)
              simp only [valOf, hg, if_true] at hpart
              simp only [execOp, hval, Instr.field, Sem.run_bind, run_underlying hd, Result.andThen_ok, hfs, asAgg, Sem.run_pure, hpart]
            · cases hx
          · have hg' : tagg E.P fd.type = false := by simpa using hg
            rw [if_neg hg] at hx
            obtain ⟨u, hu', hr⟩ := repL_get hus _ _ hx
            have hget : (⟨us⟩ : Array Value)[fd.offset]? = some u := by simpa using hu'
            refine does_pure H (v := u) ?_ hr
            simp only [execOp, hval, Instr.field, Sem.run_bind, run_underlying hd, Result.andThen_ok, hfs, asAgg, Sem.run_pure, part, run_isAgg fd.type w hu, hg', Bool.false_eq_true, if_false, hget]
      · cases hf
    · cases he
  case call c =>
    split at he
    · -- len
      rename_i hcal
      split at he
      · rename_i lt ax hlt hax
        have hres : (resolve a.eval c ty).run E.P w = .ok { target := .builtin .len c.argTypes ty (c.args.map fun | .const _ => true | _ => false), args := c.args.map a.eval } w := by
          simp only [resolve, hcal]; rfl
        have hargs : (c.args.map a.eval)[0]? = some (a.eval ax) := by simp [hax]
        have hrun : ∀ n : Int, (Builtin.len_ c.argTypes ty (c.args.map a.eval)).run E.P w = .ok (goInt n) w →
            (execOp a.eval { dst := dst, op := .call c, type := ty, pos := pos, after := after, guard := guard }).run E.P w = .ok (.value (.int .i64 n)) w := by
          intro n hn'
          simp only [execOp, Sem.run_bind, hres, Result.andThen_ok, invoke, builtin, hn', Sem.run_pure]
          rfl
        have hp := repC_vec H hle (rep_opd ht ax)
        split at he
        · rename_i s hd hv
          rw [hv] at hp
          obtain ⟨rfl, rfl, _⟩ := pureOut_inv he
          simp only [rep] at hp
          exact does_pure H (hrun s.size (by simp only [Builtin.len_, hlt, hargs, Sem.run_bind, run_underlying hd, Result.andThen_ok, hp]; rfl)) (by simp [rep])
        · rename_i e cc hd hv
          rw [hv] at hp
          obtain ⟨rfl, rfl, _⟩ := pureOut_inv he
          simp only [rep] at hp
          obtain ⟨ad, cap, hval, _⟩ := hp
          exact does_pure H (hrun cc.len (by simp only [Builtin.len_, hlt, hargs, Sem.run_bind, run_underlying hd, Result.andThen_ok, hval]; rfl)) (by simp [rep])
        · rename_i e hd hv
          rw [hv] at hp
          obtain ⟨rfl, rfl, _⟩ := pureOut_inv he
          simp only [rep] at hp
          exact does_pure H (hrun 0 (by simp only [Builtin.len_, hlt, hargs, Sem.run_bind, run_underlying hd, Result.andThen_ok, hp]; rfl)) (by simp [rep])
        · rename_i e id hd hv
          rw [hv] at hp
          split at he
          · rename_i f cc hcs
            obtain ⟨rfl, rfl, _⟩ := pureOut_inv he
            have hobj := H.obj id
            rw [hle id (by rw [hcs]; simp), hcs] at hobj
            obtain ⟨hh, g1, g2⟩ := hobj
            simp only [rep] at hp
            have hp := hp.2
            rw [g1] at hp
            injection hp with hp
            injection hp with hp
            have hval : ∃ ad cap, a.eval ax = .slice ad cc.len cap := by
              rcases g2 with ⟨g2, g3⟩ | ⟨r, cap, vs, tt, g2, _⟩
              · exact ⟨none, 0, by rw [← hp, g2, g3]⟩
              · exact ⟨_, cap, by rw [← hp, g2]⟩
            obtain ⟨ad, cap, hval⟩ := hval
            exact does_pure H (hrun cc.len (by simp only [Builtin.len_, hlt, hargs, Sem.run_bind, run_underlying hd, Result.andThen_ok, hval]; rfl)) (by simp [rep])
          · cases he
        · rename_i kt et id hd hv
          rw [hv] at hp
          split at he
          · rename_i m hcs
            obtain ⟨rfl, rfl, _⟩ := pureOut_inv he
            obtain ⟨r, es, cl, hval, _, hb, hes⟩ := map_block H (by rw [hle id (by rw [hcs]; simp)]; exact hcs) hp
            have hsz : (es.size : Int) = m.es.length := by
              have key : ∀ {k v : Kind} (xs : List (k.Ty × v.Ty)) (es : List MapEntry), repEs M k v xs es → es.length = xs.length := by
                intro k v xs
                induction xs with
                | nil => intro es h; cases es <;> simp [repEs] at h ⊢
                | cons x xs ih => intro es h; cases es <;> simp only [repEs] at h; simp [ih _ h.2.2]
              have := key _ _ hes
              have h' : es.size = m.es.length := by simpa using this
              omega
            exact does_pure H (hrun m.es.length (by simp only [Builtin.len_, hlt, hargs, Sem.run_bind, run_underlying hd, Result.andThen_ok, hval, run_getMap hb]; rw [← hsz]; rfl)) (by simp [rep])
          · cases he
        · rename_i kt et hd hv
          rw [hv] at hp
          obtain ⟨rfl, rfl, _⟩ := pureOut_inv he
          simp only [rep] at hp
          exact does_pure H (hrun 0 (by simp only [Builtin.len_, hlt, hargs, Sem.run_bind, run_underlying hd, Result.andThen_ok, hp]; rfl)) (by simp [rep])
        · cases he
      · cases he
    · -- max
      rename_i hcal
      split at he
      · rename_i k x k' y hxs
        split at he
        · rename_i hkk
          subst hkk
          obtain ⟨rfl, rfl, _⟩ := pureOut_inv he
          have hr := repL_opd ht c.args.toList
          rw [hxs] at hr
          have hvs : c.args.toList.map a.eval = [.int k x, .int k y] := by
            match hm : c.args.toList.map a.eval, hr with
            | [u, v], hr => simp only [repL, rep, and_true] at hr; rw [hr.1, hr.2]
            | [], hr => simp [repL] at hr
            | [_], hr => simp [repL] at hr
            | _ :: _ :: _ :: _, hr => simp [repL] at hr
          refine does_pure H (v := .int k (if y > x then y else x)) ?_ (by simp [rep])
          have hres : (resolve a.eval c ty).run E.P w = .ok { target := .builtin .max c.argTypes ty (c.args.map fun | .const _ => true | _ => false), args := c.args.map a.eval } w := by
            simp only [resolve, hcal]; rfl
          simp only [execOp, Sem.run_bind, hres, Result.andThen_ok, invoke, builtin, Builtin.max_, Array.toList_map, hvs, List.foldlM_cons, List.foldlM_nil, Builtin.max2, Sem.run_pure]
        · cases he
      · cases he
    · -- min
      rename_i hcal
      split at he
      · rename_i k x k' y hxs
        split at he
        · rename_i hkk
          subst hkk
          obtain ⟨rfl, rfl, _⟩ := pureOut_inv he
          have hr := repL_opd ht c.args.toList
          rw [hxs] at hr
          have hvs : c.args.toList.map a.eval = [.int k x, .int k y] := by
            match hm : c.args.toList.map a.eval, hr with
            | [u, v], hr => simp only [repL, rep, and_true] at hr; rw [hr.1, hr.2]
            | [], hr => simp [repL] at hr
            | [_], hr => simp [repL] at hr
            | _ :: _ :: _ :: _, hr => simp [repL] at hr
          refine does_pure H (v := .int k (if y < x then y else x)) ?_ (by simp [rep])
          have hres : (resolve a.eval c ty).run E.P w = .ok { target := .builtin .min c.argTypes ty (c.args.map fun | .const _ => true | _ => false), args := c.args.map a.eval } w := by
            simp only [resolve, hcal]; rfl
          simp only [execOp, Sem.run_bind, hres, Result.andThen_ok, invoke, builtin, Builtin.min_, Array.toList_map, hvs, List.foldlM_cons, List.foldlM_nil, Builtin.min2, Sem.run_pure]
        · cases he
      · cases he
    · -- append
      rename_i hcal
      split at he
      · rename_i ax ay lty ltx hax hay hlty hltx
        split at he
        case isFalse => cases he
        rename_i hsz
        have hres : (resolve a.eval c ty).run E.P w = .ok { target := .builtin .append c.argTypes ty (c.args.map fun | .const _ => true | _ => false), args := c.args.map a.eval } w := by
          simp only [resolve, hcal]; rfl
        have hargs : c.args.map a.eval = #[a.eval ax, a.eval ay] := by
          apply Array.ext (by simp [hsz.1])
          intro i h1 h2
          simp at h2
          match i, h2 with
          | 0, _ => simp only [Array.getElem_map]; obtain ⟨_, h⟩ := Array.getElem?_eq_some_iff.1 hax; rw [h]; rfl
          | 1, _ => simp only [Array.getElem_map]; obtain ⟨_, h⟩ := Array.getElem?_eq_some_iff.1 hay; rw [h]; rfl
        have htys : c.argTypes = #[lty, ltx] := by
          apply Array.ext (by simp [hsz.2])
          intro i h1 h2
          simp at h2
          match i, h2 with
          | 0, _ => obtain ⟨_, h⟩ := Array.getElem?_eq_some_iff.1 hlty; rw [h]; rfl
          | 1, _ => obtain ⟨_, h⟩ := Array.getElem?_eq_some_iff.1 hltx; rw [h]; rfl
        unfold evAppend at he
        split at he
        · rename_i e e' hd hd'
          split at he
          · rename_i k hk
            split at he
            case isFalse => cases he
            rename_i hz
            split at he
            · rename_i b f cc d hb hs
              split at he
              · rename_i c' hc'
                split at he
                · rename_i hck
                  simp only [Option.some.injEq, Prod.mk.injEq] at he
                  obtain ⟨rfl, rfl, rfl⟩ := he
                  obtain ⟨i, z, hi, hzz, hzs, _, _⟩ := zero_of (P := E.P) M hz
                  have hkk : kindOk E.P e k = true := by
                    unfold kindOf at hk
                    split at hk
                    · split at hk
                      · rename_i hq; injection hk with hk; subst hk; exact hq
                      · cases hk
                    · cases hk
                  have hesz : cc.esz = k.esz := by simp [Coll.esz, hck.1]
                  have hisz : i.size = cc.esz := by
                    simp only [kindOk, Bool.and_eq_true, beq_iff_eq] at hkk
                    rw [hesz, ← hkk.1.1.1]; simp [tsize, hi]
                  have hby : bytesOf E.P e = i.bytes := by simp [bytesOf, hi]
                  obtain ⟨hh, _⟩ := base_hdr H hle hb (rep_opd ht ax)
                  have hneed := hn _ (List.mem_singleton_self _)
                  rw [hby] at hneed
                  have hid := hfr (nid, _) (List.mem_append_right _ (List.mem_singleton_self _)) (Nat.le_refl _)
                  obtain ⟨v', w', ρ', M', hrun, r1, r2, r3, r4⟩ := run_append_vec (P := E.P) (ty := ty) H hd hd' hi hzz hc' hisz (by rw [hzs, hesz]) hh (src_reads H hle hs (rep_opd ht ay)) hneed.1 hneed.2 nid hid
                  exact does_value (by simp only [execOp, Sem.run_bind, hres, Result.andThen_ok, invoke, builtin, hargs, htys, hrun, Sem.run_pure]) r1 r2 r3 r4
                · cases he
              · cases he
            · cases he
          · cases he
        · cases he
      · cases he
    · -- delete
      rename_i hcal
      split at he
      · rename_i ax ay lty hax hay hlty
        unfold evDelete at he
        split at he
        · rename_i kt et id hd hv
          split at he
          · rename_i m hm
            split at he
            case isFalse => cases he
            rename_i hko
            split at he
            · rename_i key hkey
              simp only [Option.some.injEq, Prod.mk.injEq] at he
              obtain ⟨rfl, rfl, rfl⟩ := he
              have hres : (resolve a.eval c ty).run E.P w = .ok { target := .builtin .delete c.argTypes ty (c.args.map fun | .const _ => true | _ => false), args := c.args.map a.eval } w := by
                simp only [resolve, hcal]; rfl
              have hp := rep_opd ht ax
              rw [hv] at hp
              obtain ⟨w', hrun, H'⟩ := delete_run (P := E.P) H (by rw [hle id (by rw [hm]; simp)]; exact hm) hd hko hp (decV_rep hkey (rep_opd ht ay)) c.argTypes hlty ty (c.args.map a.eval) (by simp [hax]) (by simp [hay])
              exact does_value (v := .tuple #[]) (by simp only [execOp, Sem.run_bind, hres, Result.andThen_ok, invoke, builtin, hrun, Sem.run_pure]) (Loc.only_refl _ _) (Mem.le_refl _) H' (by simp only [rep]; exact ⟨[], rfl, by simp [repL]⟩)
            · cases he
          · cases he
        · cases he
      · cases he
    · -- a function
      rename_i f hcal
      split at he
      · rename_i g cap hg
        have hp := rep_opd ht f
        rw [hg] at hp
        simp only [rep] at hp
        obtain ⟨cvs, hval, hcvs⟩ := hp
        obtain ⟨henter, hs⟩ := evCall_sound hK he hn H hle hfr (repL_opd ht c.args.toList) hcvs
        intro next Q hnext
        have hexec : (execOp a.eval { dst := dst, op := .call c, type := ty, pos := pos, after := after, guard := guard }).run E.P w = .ok (.enter g ⟨c.args.toList.map a.eval ++ cvs⟩) w := by
          have hres : (resolve a.eval c ty).run E.P w = .ok { target := .fn (.func g) ⟨cvs⟩, args := c.args.map a.eval } w := by
            simp only [resolve, hcal, hval, Deferred.ofValue]
            simp
          have harr : (c.args.map a.eval ++ (⟨cvs⟩ : Array Value)) = ⟨c.args.toList.map a.eval ++ cvs⟩ := by apply Array.ext'; simp
          simp only [execOp, Sem.run_bind, hres, Result.andThen_ok, invoke, harr]
          exact henter _ _
        unfold Oper.wp
        rw [hexec]
        refine hs.mono fun e w' hpost => ?_
        obtain ⟨v, ρ', M', rfl, h1, h2, h3, h4⟩ := hpost
        exact hnext v w' ρ' M' h1 h2 h3 h4
      · cases he
    · cases he
  case buildSlice bt len ps =>
    unfold evBuildSlice at he
    split at he
    · rename_i e hd
      split at he
      · rename_i k hk
        split at he
        · rename_i xs hxs
          split at he
          · rename_i hc
            simp only [Option.some.injEq, Prod.mk.injEq] at he
            obtain ⟨rfl, rfl, rfl⟩ := he
            have hkk : kindOk E.P e k = true := by
              unfold kindOf at hk
              split at hk
              · split at hk
                · rename_i hq; injection hk with hk; subst hk; exact hq
                · cases hk
              · cases hk
            have hid := hfr (nid, _) (List.mem_singleton_self _) (Nat.le_refl _)
            obtain ⟨v, w', ρ', M', hrun, r1, r2, r3, r4⟩ := buildSlice_new (P := E.P) H ht hd hkk hc.2.2 hxs hc.1 hc.2.1 hid
            have hps : ps.map (fun x => (x.1, a.eval x.2)) = ⟨ps.toList.map fun p => (p.1, a.eval p.2)⟩ := by apply Array.ext'; simp
            exact does_value (by simp only [execOp, Sem.run_bind]; rw [hps, hrun]; rfl) r1 r2 r3 r4
          · cases he
        · cases he
      · cases he
    · cases he
  case makeSlice mt l cp =>
    unfold evMakeSlice at he
    split at he
    · rename_i e k1 l1 k2 c2 hd hl hcp
      split at he
      · rename_i k hk
        split at he
        · rename_i hz
          simp only [Option.some.injEq, Prod.mk.injEq] at he
          obtain ⟨rfl, rfl, rfl⟩ := he
          have hkk : kindOk E.P e k = true := by
            unfold kindOf at hk
            split at hk
            · split at hk
              · rename_i hq; injection hk with hk; subst hk; exact hq
              · cases hk
            · cases hk
          have h1 := rep_opd ht l
          have h2 := rep_opd ht cp
          rw [hl] at h1
          rw [hcp] at h2
          simp only [rep] at h1 h2
          have hneed := hn _ (List.mem_singleton_self _)
          have hid := hfr (nid, _) (List.mem_singleton_self _) (Nat.le_refl _)
          obtain ⟨v, w', ρ', M', hrun, r1, r2, r3, r4⟩ := makeSlice_new (P := E.P) (kl := k1) (kc := k2) H hd hkk hz hneed.1 hneed.2.1 hneed.2.2.1 hneed.2.2.2 (!E.wr) hid
          exact does_value (by simp only [execOp, Sem.run_bind, h1, h2, hrun, Result.andThen_ok, Sem.run_pure]) r1 r2 r3 r4
        · cases he
      · cases he
    · cases he
  case slice st y lo hi mx =>
    cases mx with
    | some m => cases he
    | none =>
    simp only at he
    unfold evSlice at he
    have hp := repC_vec H hle (rep_opd ht y)
    split at he
    · rename_i s hd hv
      rw [hv] at hp
      split at he
      · rename_i l r hl hr'
        simp only [Option.some.injEq, Prod.mk.injEq] at he
        obtain ⟨rfl, rfl, rfl⟩ := he
        have hneed := hn _ (List.mem_singleton_self _)
        simp only [rep] at hp
        exact does_pure H (v := .string (s.extract l.toNat r.toNat)) (by simp only [execOp, Sem.run_bind, hp, Option.map_none, slice_string (M := M) (ρ := ρ) ht hd hl hr' hneed.1 hneed.2.1 hneed.2.2 w, Result.andThen_ok, Sem.run_pure]) (by simp [rep])
      · cases he
    · rename_i e c hd hv
      rw [hv] at hp
      split at he
      · rename_i l r hl hr'
        split at he
        · rename_i hc
          simp only [Option.some.injEq, Prod.mk.injEq] at he
          obtain ⟨rfl, rfl, rfl⟩ := he
          have hneed := hn _ (List.mem_singleton_self _)
          obtain ⟨u, hrun, hru⟩ := slice_coll (P := E.P) ht hd hc.1 hc.2 hl hr' hneed.1 hneed.2.1 hneed.2.2 hp w
          exact does_pure H (by simp only [execOp, Sem.run_bind, Option.map_none, hrun, Result.andThen_ok, Sem.run_pure]) hru
        · cases he
      · cases he
    · rename_i e id hd hv
      rw [hv] at hp
      split at he
      · rename_i f c hcs
        split at he
        · rename_i l r hl hr'
          split at he
          · rename_i hc
            simp only [Option.some.injEq, Prod.mk.injEq] at he
            obtain ⟨rfl, rfl, rfl⟩ := he
            have hneed := hn _ (List.mem_singleton_self _)
            obtain ⟨u, hrun, hru⟩ := slice_vec (P := E.P) H ht (by rw [hle id (by rw [hcs]; simp)]; exact hcs) hd hc.1 hc.2 hl hr' hneed.1 hneed.2.1 hneed.2.2 hp
            exact does_pure H (by simp only [execOp, Sem.run_bind, Option.map_none, hrun, Result.andThen_ok, Sem.run_pure]) hru
          · cases he
        · cases he
      · cases he
    · cases he
  case makeMap mt rs =>
    cases rs with
    | some r => cases he
    | none =>
    simp only at he
    unfold evMakeMap at he
    split at he
    · rename_i kt et hd
      split at he
      · rename_i k v hk hv
        simp only [Option.some.injEq, Prod.mk.injEq] at he
        obtain ⟨rfl, rfl, rfl⟩ := he
        have hid := hfr (nid, _) (List.mem_singleton_self _) (Nat.le_refl _)
        have Hn := H.allocO nid hid (.map ⟨k, v, []⟩) (.blk w.heap.size) (.map #[] 0) ⟨w.heap.size, #[], 0, by simp [Loc.put], by simp [Loc.put], heap_alloc_new w _, trivial⟩
        refine does_value (v := .map (some w.heap.size)) ?_ (Loc.only_put hid _ _ (List.mem_singleton_self _)) (Mem.le_refl _) Hn (by simp only [rep]; exact ⟨_, by simp [Loc.put], rfl⟩)
        simp only [execOp, Sem.run_bind, Instr.makeMap, Option.map_none]
        rfl
      · cases he
    · cases he
  case lookup lt y ix ok =>
    unfold evLookup at he
    have hp := rep_opd ht y
    split at he
    · rename_i kt et id hd hv
      rw [hv] at hp
      split at he
      · rename_i m hm
        split at he
        case isFalse => cases he
        rename_i hc
        split at he
        · rename_i key hkey
          obtain ⟨rfl, rfl, _⟩ := pureOut_inv he
          obtain ⟨u, hrun, hru⟩ := lookup_run (P := E.P) H (by rw [hle id (by rw [hm]; simp)]; exact hm) hd hc.1 hc.2.2 hp (decV_rep hkey (rep_opd ht ix)) ok
          exact does_pure H (by simp only [execOp, Sem.run_bind, hrun, Result.andThen_ok, Sem.run_pure]) hru
        · cases he
      · cases he
    · cases he
  case mapUpdate lt y ix z =>
    unfold evUpdate at he
    have hp := rep_opd ht y
    split at he
    · rename_i kt et id hd hv
      rw [hv] at hp
      split at he
      · rename_i m hm
        split at he
        case isFalse => cases he
        rename_i hc
        split at he
        · rename_i key val hkey hval
          simp only [Option.some.injEq, Prod.mk.injEq] at he
          obtain ⟨rfl, rfl, rfl⟩ := he
          obtain ⟨w', hrun, H'⟩ := mapUpdate_run (P := E.P) H (by rw [hle id (by rw [hm]; simp)]; exact hm) hd hc hp (decV_rep hkey (rep_opd ht ix)) (decV_rep hval (rep_opd ht z))
          exact does_skip (by simp only [execOp, Sem.run_bind, hrun, Result.andThen_ok, Sem.run_pure]) (Loc.only_refl _ _) (Mem.le_refl _) H'
        · cases he
      · cases he
    · cases he
  case insert lt y ix z =>
    unfold evUpdate at he
    have hp := rep_opd ht y
    split at he
    · rename_i kt et id hd hv
      rw [hv] at hp
      split at he
      · rename_i m hm
        split at he
        case isFalse => cases he
        rename_i hc
        split at he
        · rename_i key val hkey hval
          simp only [Option.some.injEq, Prod.mk.injEq] at he
          obtain ⟨rfl, rfl, rfl⟩ := he
          obtain ⟨w', hrun, H'⟩ := mapUpdate_run (P := E.P) H (by rw [hle id (by rw [hm]; simp)]; exact hm) hd hc hp (decV_rep hkey (rep_opd ht ix)) (decV_rep hval (rep_opd ht z))
          exact does_skip (by simp only [execOp, Sem.run_bind, hrun, Result.andThen_ok, Sem.run_pure]) (Loc.only_refl _ _) (Mem.le_refl _) H'
        · cases he
      · cases he
    · cases he
  all_goals cases he
end
end Go.Eng
