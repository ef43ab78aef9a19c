/- The engine, part 7: the law of one operation. -/
import Derived.Test.YtofimhodpemmiaaEng6
namespace Go.Eng
open Go.RowKit (Below)

section
variable {E : Env} {B : Nat → Prop} {w0 w : World} {M0 M : Mem} {h hr : List AObj} {ρ : Loc} {t : List AV} {a : Act}

theorem pureOut_inv {x y : AV} {effs : Eff} {need : List Prop} (h : pureOut x = some (y, effs, need)) : x = y ∧ effs = [] ∧ need = [] := by
  simp only [pureOut, Option.some.injEq, Prod.mk.injEq] at h
  exact ⟨h.1, h.2.1.symm, h.2.2.symm⟩
theorem bindOut_inv {x : Option AV} {y : AV} {effs : Eff} {need : List Prop} (h : x.bind pureOut = some (y, effs, need)) : x = some y ∧ effs = [] ∧ need = [] := by
  cases x with
  | none => cases h
  | some z =>
    obtain ⟨h1, h2, h3⟩ := pureOut_inv (by simpa using h)
    exact ⟨by rw [h1], h2, h3⟩

theorem evOp_sound (hK : KOk E) {nid : Nat} {o : Oper} {x : AV} {effs : Eff} {need : List Prop} (he : evOp E t hr nid o.op = some (x, effs, need)) (hn : ∀ p ∈ need, p) (H : SimH B w0 M0 h w ρ M)
    (hle : ∀ id, hget hr id ≠ .dead → hget h id = hget hr id) (hfr : ∀ p ∈ effs, nid ≤ p.1 → ρ p.1 = none) (ht : ∀ i, rep ρ M noG (t.getD i .unk) (a.eval (.tmp i))) :
    Does B w0 M0 E.P o a w h ρ M x effs := by
  obtain ⟨dst, op, ty, pos, after, guard⟩ := o
  simp only at he
  cases op <;> simp only [evOp] at he
  case move y =>
    obtain ⟨rfl, rfl, _⟩ := pureOut_inv he
    exact does_pure H rfl (rep_opd ht y)
  case assign y =>
    obtain ⟨rfl, rfl, _⟩ := pureOut_inv he
    exact does_pure H rfl (rep_opd ht y)
  case alloc e =>
    cases hz : tzero E.P e with
    | none => rw [hz] at he; cases he
    | some z =>
      rw [hz] at he
      simp only [Option.some.injEq, Prod.mk.injEq] at he
      obtain ⟨rfl, rfl, rfl⟩ := he
      have hid := hfr (nid, _) (List.mem_singleton_self _) (Nat.le_refl _)
      obtain ⟨w', hrun, H'⟩ := alloc_new (P := E.P) H hz hid
      exact does_value (by simp only [execOp, Sem.run_bind, hrun, Result.andThen_ok, Sem.run_pure]) (Loc.only_put hid _) (Mem.le_refl _) H' rep_put_ptr
  case box e y =>
    split at he
    · rename_i h1
      simp only [Option.some.injEq, Prod.mk.injEq] at he
      obtain ⟨rfl, rfl, rfl⟩ := he
      have hid := hfr (nid, _) (List.mem_singleton_self _) (Nat.le_refl _)
      obtain ⟨w', hrun, H'⟩ := box_new (P := E.P) (t := e) H (rep_opd ht y) h1 hid
      exact does_value (by simp only [execOp, Sem.run_bind, hrun, Result.andThen_ok, Sem.run_pure]) (Loc.only_put hid _) (Mem.le_refl _) H' rep_put_ptr
    · cases he
  case build bt ps =>
    split at he
    · rename_i z pl hz hpl
      split at he
      case isFalse => cases he
      rename_i hones
      split at he
      · rename_i cs hcs
        obtain ⟨rfl, rfl, _⟩ := pureOut_inv he
        unfold tzero at hz
        cases hi : E.P.info? bt with
        | none => rw [hi] at hz; cases hz
        | some i =>
          rw [hi] at hz
          simp only [Option.bind_some] at hz
          cases hzz : i.zero with
          | none => rw [hzz] at hz; cases hz
          | some zv =>
            rw [hzz] at hz
            injection hz with hz
            have hcz := cells_avOf (ρ := ρ) (M := M) zv
            rw [hz] at hcz
            unfold placesOf at hpl
            split at hpl
            · rename_i fs hd
              split at hpl
              · rename_i hall
                injection hpl with hpl
                have hmap : (fs.mapM fun f => do pure (f.offset, ← sizeOf f.type) : Sem (Array (Nat × Nat))).run E.P w = .ok pl.toArray w := by
                  subst hpl
                  rw [← Array.toArray_toList (xs := fs)]
                  rw [List.mapM_toArray]
                  simp only [Sem.run_map]
                  have : ∀ l : List Field, l.all (fun f => (E.P.info? f.type).isSome) = true → (l.mapM fun f => do pure (f.offset, ← sizeOf f.type) : Sem (List (Nat × Nat))).run E.P w = .ok (l.map fun f => (f.offset, tsize E.P f.type)) w := by
                    intro l
                    induction l with
                    | nil => intro _; simp
                    | cons f l ih =>
                      intro hl
                      simp only [List.all_cons, Bool.and_eq_true] at hl
                      simp only [List.mapM_cons, Sem.run_bind, run_sizeOf f.type w hl.1, Result.andThen_ok, Sem.run_pure, ih hl.2, List.map_cons]
                  rw [this fs.toList hall]
                  simp
                obtain ⟨vs, hfill, hvs⟩ := fill_run (ρ := ρ) (M := M) (ps.toList.map fun p => (p.1, opd t p.2)) (ps.toList.map fun p => (p.1, a.eval p.2)) z zv.cells.toList cs hcs hcz (by simp) (fun j p u h1 h2 => by
                  rw [List.getElem?_map] at h1 h2
                  cases hj : ps.toList[j]? with
                  | none => rw [hj] at h1; cases h1
                  | some q =>
                    rw [hj] at h1 h2
                    simp only [Option.map_some, Option.some.injEq] at h1 h2
                    subst h1; subst h2
                    refine ⟨rfl, ?_⟩
                    exact (one_cellsL (List.all_eq_true.1 hones q (List.mem_of_getElem? hj)) (rep_opd ht q.2)).1)
                refine does_pure H (v := .agg ⟨vs⟩) ?_ (by simp only [rep]; exact ⟨vs, rfl, hvs⟩)
                simp only [execOp, Sem.run_bind, Instr.build, run_zeroValue hi hzz, Result.andThen_ok, run_underlying hd, hmap]
                have hfill' : Instr.fill (fun i => pl.toArray[i]?) zv.cells (ps.map fun x => (x.1, a.eval x.2)).toList = some ⟨vs⟩ := by
                  simpa using hfill
                rw [hfill']
                rfl
              · cases hpl
            · cases hpl
      · cases he
    · cases he
  case load lt ad =>
    have hp := rep_opd ht ad
    split at he
    · rename_i id off hv
      rw [hv] at hp
      split at he
      · rename_i ct cs hcs
        obtain ⟨hx, rfl, _⟩ := bindOut_inv he
        obtain ⟨u, hrun, hr⟩ := load_ptr (P := E.P) H (by rw [hle id (by rw [hcs]; simp)]; exact hcs) hx hp
        exact does_pure H (by simp only [execOp, Sem.run_bind, hrun, Result.andThen_ok, Sem.run_pure]) hr
      · cases he
    · rename_i c i off hv
      rw [hv] at hp
      obtain ⟨hx, rfl, _⟩ := bindOut_inv he
      obtain ⟨u, hrun, hr⟩ := load_ep (P := E.P) H hx hp
      exact does_pure H (by simp only [execOp, Sem.run_bind, hrun, Result.andThen_ok, Sem.run_pure]) hr
    · cases he
  case store st ad y =>
    have hp := rep_opd ht ad
    have hy := rep_opd ht y
    split at he
    · rename_i id off hv
      rw [hv] at hp
      split at he
      · rename_i ct cs hcs
        split at he
        · rename_i hc
          simp only [Option.some.injEq, Prod.mk.injEq] at he
          obtain ⟨rfl, rfl, rfl⟩ := he
          obtain ⟨w', hrun, H'⟩ := store_ptr (P := E.P) H (by rw [hle id (by rw [hcs]; simp)]; exact hcs) hp hy hc.1 hc.2.1 hc.2.2.1 hc.2.2.2
          exact does_skip (by simp only [execOp, Sem.run_bind, hrun, Result.andThen_ok, Sem.run_pure]) (Loc.only_refl _ _) (Mem.le_refl _) H'
        · cases he
      · cases he
    · cases he
  case nilCheck y =>
    have hp := rep_opd ht y
    split at he
    · rename_i id off hv
      rw [hv] at hp
      obtain ⟨rfl, rfl, _⟩ := pureOut_inv he
      have hp' := hp
      simp only [rep] at hp'
      obtain ⟨r, _, hval⟩ := hp'
      exact does_pure H (v := a.eval y) (by simp only [execOp, hval]; rfl) hp
    · rename_i c i off hv
      rw [hv] at hp
      obtain ⟨rfl, rfl, _⟩ := pureOut_inv he
      have hp' := hp
      simp only [rep] at hp'
      obtain ⟨_, _, b, o, hval, _⟩ := hp'
      exact does_pure H (v := a.eval y) (by simp only [execOp, hval]; rfl) hp
    · rename_i f cap hv
      rw [hv] at hp
      obtain ⟨rfl, rfl, _⟩ := pureOut_inv he
      have hp' := hp
      simp only [rep] at hp'
      obtain ⟨vs, hval, _⟩ := hp'
      exact does_pure H (v := a.eval y) (by simp only [execOp, hval]; rfl) hp
    · cases he
  case binOp op xt y z yt =>
    cases hb : evBin E.P op xt (opd t y) (opd t z) with
    | none => rw [hb] at he; cases he
    | some r =>
      rw [hb] at he
      simp only [Option.map_some, Option.some.injEq, Prod.mk.injEq] at he
      obtain ⟨rfl, rfl, rfl⟩ := he
      obtain ⟨u, hrun, hr⟩ := evBin_run (p := y) (q := z) hb hn (rep_opd ht y) (rep_opd ht z) w
      exact does_pure H (by simp only [execOp]; rw [Sem.run_bind, hrun]; rfl) hr
  case unOp op xt y =>
    have hp := rep_opd ht y
    cases op <;> simp only at he
    case not =>
      split at he
      · rename_i b hv
        rw [hv] at hp
        obtain ⟨rfl, rfl, _⟩ := pureOut_inv he
        simp only [rep] at hp
        exact does_pure H (v := .bool (!b)) (by simp only [execOp, hp]; rfl) (by simp [rep])
      · cases he
    case neg =>
      split at he
      · rename_i k n hv
        rw [hv] at hp
        obtain ⟨rfl, rfl, _⟩ := pureOut_inv he
        simp only [rep] at hp
        exact does_pure H (v := .int k (k.wrap (0 - n))) (by simp only [execOp, hp]; rfl) (by simp [rep])
      · cases he
    all_goals cases he
  case convert src dt y =>
    have hp := rep_opd ht y
    split at he
    · rename_i k0 k q n hs hd hv
      rw [hv] at hp
      obtain ⟨rfl, rfl, _⟩ := pureOut_inv he
      simp only [rep] at hp
      exact does_pure H (v := .int k (k.wrap n)) (by simp only [execOp, hp, Sem.run_bind, convert, run_underlying hs, run_underlying hd, Result.andThen_ok, Conv.intToInt, Sem.run_pure]) (by simp [rep])
    · rename_i s hs hd hv
      rw [hv] at hp
      obtain ⟨rfl, rfl, _⟩ := pureOut_inv he
      simp only [rep] at hp
      exact does_pure H (v := .string s) (by simp only [execOp, hp, Sem.run_bind, convert, run_underlying hs, run_underlying hd, Result.andThen_ok, Sem.run_pure]) (by simp [rep])
    · cases he
  case makeFunc fn first cap =>
    cases fn <;> simp only at he
    case func f =>
      split at he
      · rename_i h0
        obtain ⟨rfl, rfl, _⟩ := pureOut_inv he
        have hf : first = #[] := by simpa using h0
        subst hf
        refine does_pure H (v := .func (.func f) #[] ⟨cap.toList.map a.eval⟩) ?_ (by simp only [rep]; exact ⟨_, rfl, repL_opd ht _⟩)
        have hm : cap.map a.eval = ⟨cap.toList.map a.eval⟩ := by apply Array.ext'; simp
        simp only [execOp, Instr.makeFunc, Sem.run_bind, Sem.run_pure, Result.andThen_ok, hm]
        simp
      · cases he
    all_goals cases he
  case makeInterface mt y =>
    have hp := rep_opd ht y
    split at he
    · cases he
    · rename_i d hni hd
      obtain ⟨rfl, rfl, _⟩ := pureOut_inv he
      refine does_pure H (v := .iface mt (a.eval y)) ?_ (by simp only [rep]; exact ⟨_, rfl, hp⟩)
      simp only [execOp, Instr.makeInterface, Sem.run_bind, run_underlying hd, Result.andThen_ok]
      cases d <;> first | rfl | exact absurd hd (hni _)
    · cases he
  case fieldAddr s y f =>
    have hp := rep_opd ht y
    split at he
    · rename_i off ft hf
      split at he
      · cases he
      · rename_i hz
        split at he
        · rename_i id o hv
          rw [hv] at hp
          obtain ⟨rfl, rfl, _⟩ := pureOut_inv he
          obtain ⟨u, hrun, hr⟩ := fieldAddr_rep (P := E.P) (w := w) hf hz hp
          exact does_pure H (by simp only [execOp, Sem.run_bind, hrun, Result.andThen_ok, Sem.run_pure]) hr
        · rename_i c i o hv
          rw [hv] at hp
          split at he
          · rename_i hle'
            obtain ⟨rfl, rfl, _⟩ := pureOut_inv he
            obtain ⟨u, hrun, hr⟩ := fieldAddr_ep (P := E.P) (w := w) hf hz hle' hp
            exact does_pure H (by simp only [execOp, Sem.run_bind, hrun, Result.andThen_ok, Sem.run_pure]) hr
          · cases he
        · cases he
    · cases he
  case indexAddr it y ix =>
    split at he
    · rename_i e c k i hu hv hix
      have hp := repC_vec H hle (rep_opd ht y)
      rw [hv] at hp
      have hi := rep_opd ht ix
      rw [hix] at hi
      simp only [rep] at hi
      split at he
      · rename_i hc
        simp only [Option.some.injEq, Prod.mk.injEq] at he
        obtain ⟨rfl, rfl, rfl⟩ := he
        obtain ⟨u, hrun, hr⟩ := indexAddr_coll (P := E.P) (w := w) (k := k) hu hc.1 hc.2 (hn _ (List.mem_singleton_self _)).1 (hn _ (List.mem_singleton_self _)).2 hp
        exact does_pure H (by simp only [execOp, hi, Sem.run_bind, hrun, Result.andThen_ok, Sem.run_pure]) hr
      · cases he
    · cases he
  case index it y ix =>
    split at he
    · rename_i s k i hu hv hix
      have hp := rep_opd ht y
      rw [hv] at hp
      have hi := rep_opd ht ix
      rw [hix] at hi
      simp only [rep] at hi hp
      simp only [Option.some.injEq, Prod.mk.injEq] at he
      obtain ⟨rfl, rfl, rfl⟩ := he
      exact does_pure H (v := .int .u8 (byteAt s i)) (by simp only [execOp, hi, hp, Sem.run_bind, run_index_string hu (hn _ (List.mem_singleton_self _)).1 (hn _ (List.mem_singleton_self _)).2, Result.andThen_ok, Sem.run_pure]) (by simp [rep])
    · cases he
  case extract y ix =>
    have hp := rep_opd ht y
    split at he
    · rename_i vs hv
      rw [hv] at hp
      obtain ⟨hx, rfl, _⟩ := bindOut_inv he
      simp only [rep] at hp
      obtain ⟨us, hval, hus⟩ := hp
      obtain ⟨u, hu, hr⟩ := repL_get hus ix _ hx
      exact does_pure H (v := u) (by simp only [execOp, hval, Sem.run_bind, Instr.extract]; simp [hu]) hr
    · cases he
  case field s y f =>
    have hp := rep_opd ht y
    split at he
    · rename_i off ft cs hf hv
      rw [hv] at hp
      obtain ⟨hx, rfl, _⟩ := bindOut_inv he
      simp only [rep] at hp
      obtain ⟨us, hval, hus⟩ := hp
      unfold fieldOff at hf
      split at hf
      · rename_i fs hd
        cases hfs : fs[f]? with
        | none => rw [hfs] at hf; cases hf
        | some fd =>
          rw [hfs] at hf
          simp only [Option.map_some, Option.some.injEq, Prod.mk.injEq] at hf
          obtain ⟨rfl, rfl⟩ := hf
          have hx' := hx
          unfold loadFrom at hx
          split at hx
          case isFalse => cases hx
          rename_i hui
          obtain ⟨hu, hi⟩ : (E.P.underlying fd.type).isSome = true ∧ (E.P.info? fd.type).isSome = true := by simpa using hui
          by_cases hg : tagg E.P fd.type = true
          · rw [if_pos hg] at hx
            split at hx
            · injection hx with hx
              subst hx
              refine does_pure H (v := .agg ⟨(us.drop fd.offset).take (tsize E.P fd.type)⟩) ?_ (by simp only [rep]; exact ⟨_, rfl, repL_take _ (repL_drop _ hus)⟩)
              have hpart := run_part (P := E.P) fd.type us fd.offset w hu (fun _ => hi) (fun hf => by rw [hg] at hf; cases hf)
              simp only [valOf, hg, if_true] at hpart
              simp only [execOp, hval, Instr.field, Sem.run_bind, run_underlying hd, Result.andThen_ok, hfs, asAgg, Sem.run_pure, hpart]
            · cases hx
          · have hg' : tagg E.P fd.type = false := by simpa using hg
            rw [if_neg hg] at hx
            obtain ⟨u, hu', hr⟩ := repL_get hus _ _ hx
            have hget : (⟨us⟩ : Array Value)[fd.offset]? = some u := by simpa using hu'
            refine does_pure H (v := u) ?_ hr
            simp only [execOp, hval, Instr.field, Sem.run_bind, run_underlying hd, Result.andThen_ok, hfs, asAgg, Sem.run_pure, part, run_isAgg fd.type w hu, hg', Bool.false_eq_true, if_false, hget]
      · cases hf
    · cases he
  case call c =>
    split at he
    · -- len
      rename_i hcal
      split at he
      · rename_i lt ax hlt hax
        have hres : (resolve a.eval c ty).run E.P w = .ok { target := .builtin .len c.argTypes ty (c.args.map fun | .const _ => true | _ => false), args := c.args.map a.eval } w := by
          simp only [resolve, hcal]; rfl
        have hargs : (c.args.map a.eval)[0]? = some (a.eval ax) := by simp [hax]
        have hrun : ∀ n : Int, (Builtin.len_ c.argTypes ty (c.args.map a.eval)).run E.P w = .ok (goInt n) w →
            (execOp a.eval { dst := dst, op := .call c, type := ty, pos := pos, after := after, guard := guard }).run E.P w = .ok (.value (.int .i64 n)) w := by
          intro n hn'
          simp only [execOp, Sem.run_bind, hres, Result.andThen_ok, invoke, builtin, hn', Sem.run_pure]
          rfl
        have hp := repC_vec H hle (rep_opd ht ax)
        split at he
        · rename_i s hd hv
          rw [hv] at hp
          obtain ⟨rfl, rfl, _⟩ := pureOut_inv he
          simp only [rep] at hp
          exact does_pure H (hrun s.size (by simp only [Builtin.len_, hlt, hargs, Sem.run_bind, run_underlying hd, Result.andThen_ok, hp]; rfl)) (by simp [rep])
        · rename_i e cc hd hv
          rw [hv] at hp
          obtain ⟨rfl, rfl, _⟩ := pureOut_inv he
          simp only [rep] at hp
          obtain ⟨ad, cap, hval, _⟩ := hp
          exact does_pure H (hrun cc.len (by simp only [Builtin.len_, hlt, hargs, Sem.run_bind, run_underlying hd, Result.andThen_ok, hval]; rfl)) (by simp [rep])
        · rename_i e hd hv
          rw [hv] at hp
          obtain ⟨rfl, rfl, _⟩ := pureOut_inv he
          simp only [rep] at hp
          exact does_pure H (hrun 0 (by simp only [Builtin.len_, hlt, hargs, Sem.run_bind, run_underlying hd, Result.andThen_ok, hp]; rfl)) (by simp [rep])
        · cases he
      · cases he
    · -- max
      rename_i hcal
      split at he
      · rename_i k x k' y hxs
        split at he
        · rename_i hkk
          subst hkk
          obtain ⟨rfl, rfl, _⟩ := pureOut_inv he
          have hr := repL_opd ht c.args.toList
          rw [hxs] at hr
          have hvs : c.args.toList.map a.eval = [.int k x, .int k y] := by
            match hm : c.args.toList.map a.eval, hr with
            | [u, v], hr => simp only [repL, rep, and_true] at hr; rw [hr.1, hr.2]
            | [], hr => simp [repL] at hr
            | [_], hr => simp [repL] at hr
            | _ :: _ :: _ :: _, hr => simp [repL] at hr
          refine does_pure H (v := .int k (if y > x then y else x)) ?_ (by simp [rep])
          have hres : (resolve a.eval c ty).run E.P w = .ok { target := .builtin .max c.argTypes ty (c.args.map fun | .const _ => true | _ => false), args := c.args.map a.eval } w := by
            simp only [resolve, hcal]; rfl
          simp only [execOp, Sem.run_bind, hres, Result.andThen_ok, invoke, builtin, Builtin.max_, Array.toList_map, hvs, List.foldlM_cons, List.foldlM_nil, Builtin.max2, Sem.run_pure]
        · cases he
      · cases he
    · -- min
      rename_i hcal
      split at he
      · rename_i k x k' y hxs
        split at he
        · rename_i hkk
          subst hkk
          obtain ⟨rfl, rfl, _⟩ := pureOut_inv he
          have hr := repL_opd ht c.args.toList
          rw [hxs] at hr
          have hvs : c.args.toList.map a.eval = [.int k x, .int k y] := by
            match hm : c.args.toList.map a.eval, hr with
            | [u, v], hr => simp only [repL, rep, and_true] at hr; rw [hr.1, hr.2]
            | [], hr => simp [repL] at hr
            | [_], hr => simp [repL] at hr
            | _ :: _ :: _ :: _, hr => simp [repL] at hr
          refine does_pure H (v := .int k (if y < x then y else x)) ?_ (by simp [rep])
          have hres : (resolve a.eval c ty).run E.P w = .ok { target := .builtin .min c.argTypes ty (c.args.map fun | .const _ => true | _ => false), args := c.args.map a.eval } w := by
            simp only [resolve, hcal]; rfl
          simp only [execOp, Sem.run_bind, hres, Result.andThen_ok, invoke, builtin, Builtin.min_, Array.toList_map, hvs, List.foldlM_cons, List.foldlM_nil, Builtin.min2, Sem.run_pure]
        · cases he
      · cases he
    · -- a function
      rename_i f hcal
      split at he
      · rename_i g cap hg
        have hp := rep_opd ht f
        rw [hg] at hp
        simp only [rep] at hp
        obtain ⟨cvs, hval, hcvs⟩ := hp
        have hargs : repL ρ M noG ((c.args.toList.map fun x => coerce hr (opd t x)) ++ cap) (c.args.toList.map a.eval ++ cvs) := by
          have := repL_coerce H hle (repL_opd ht c.args.toList)
          rw [List.map_map] at this
          exact repL_append this hcvs
        have hs := hK.sound _ _ _ _ _ _ _ he hn B w0 M0 h w ρ M _ H hle hfr hargs
        intro next Q hnext
        have hexec : (execOp a.eval { dst := dst, op := .call c, type := ty, pos := pos, after := after, guard := guard }).run E.P w = .ok (.enter g ⟨c.args.toList.map a.eval ++ cvs⟩) w := by
          have hres : (resolve a.eval c ty).run E.P w = .ok { target := .fn (.func g) ⟨cvs⟩, args := c.args.map a.eval } w := by
            simp only [resolve, hcal, hval, Deferred.ofValue]
            simp
          have harr : (c.args.map a.eval ++ (⟨cvs⟩ : Array Value)) = ⟨c.args.toList.map a.eval ++ cvs⟩ := by apply Array.ext'; simp
          simp only [execOp, Sem.run_bind, hres, Result.andThen_ok, invoke, harr]
          exact hK.enters _ _ _ _ _ he _ _
        unfold Oper.wp
        rw [hexec]
        refine hs.mono fun e w' hpost => ?_
        obtain ⟨v, ρ', M', rfl, h1, h2, h3, h4⟩ := hpost
        exact hnext v w' ρ' M' h1 h2 h3 h4
      · cases he
    · cases he
  all_goals cases he
end
end Go.Eng
