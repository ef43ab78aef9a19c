/- The calls: slices.Clone of calls, by hand. -/
import Derived.Test.YtkledlcmhbjadaaGreatDH1
import Derived.WalkKit
import Derived.Tactics2
import Derived.Lib.SliceRun
import Derived.OwnWalk
set_option linter.unusedVariables false
set_option linter.unusedSimpArgs false
set_option maxRecDepth 100000
namespace Go.Proofs.YtkledlcmhbjadaaGreat
open Go Go.Eng
open Go.RowKit (Below)
theorem simCongr {B : Nat → Prop} {w0 w : World} {M0 M : Mem} {h h' : List AObj} {ρ : Go.Eng.Loc} (H : SimH B w0 M0 h w ρ M) (hl : h.length ≤ h'.length) (hg : ∀ id, hget h' id = hget h id) : SimH B w0 M0 h' w ρ M :=
 ⟨fun id => by rw [hg]; exact H.obj id, fun id hi => H.fresh id (Nat.le_trans hl hi), H.own, H.mem, H.old, H.below, H.size, H.good⟩
theorem wpl_append {P : Program} {w w' : World} {ops : Array Oper} {rest : List Oper} {o : Oper} {a : Act} {Q : Exit → Act → World → Prop} (hg : o.guard = none) (s x : Operand) (t ty : TypeId) (hop : o.op = .call { callee := .builtin .append, args := #[s, x], argTypes := #[t, t] }) (hty : o.type = ty)
  {v u1 u2 : Value} (hs : a.eval s = u1) (hx : a.eval x = u2) (hrun : (Builtin.append_ #[t, t] ty #[u1, u2]).run P w = .ok v w') (h : wpList P ops Q rest (a.put o.dst v) w') : wpList P ops Q (o :: rest) a w := by
 subst hty
 refine wpList_plain hg fun K' hK' => ?_
 unfold Oper.wp
 simp [execOp, hop, hs, hx, resolve, invoke, builtin, hrun, Result.andThen]
 exact hK' _ _ h
theorem clone_nil (w : World) : Calls Tryz.prog 21 #[.slice none 0 0] w fun e w' => e = .returned (.slice none 0 0) ∧ w' = w := by
 have hq := fun w => Go.Lib.run_eql_slice_nil (P := Tryz.prog) w 28 34 none 0 0 0 0 Tryz.underlying28
 go_enter Tryz.func21, Tryz.ntmps21
 go_wp2
 go_ret
 exact ⟨rfl, rfl⟩
theorem build0 (w : World) : (Instr.buildSlice 28 0 #[]).run Tryz.prog w = .ok (.slice (some ⟨w.heap.size, 0, none⟩) 0 0) (w.alloc (.cells #[] 34)) := by kernel_rfl
theorem clone_some (w w1 w2 : World) {r n cap : Nat} {v1 v2 : Value} (hb : (Instr.buildSlice 28 0 #[]).run Tryz.prog w = .ok v1 w1) (ha : (Builtin.append_ #[28, 28] 28 #[v1, .slice (some ⟨r, 0, none⟩) n cap]).run Tryz.prog w1 = .ok v2 w2) :
  Calls Tryz.prog 21 #[.slice (some ⟨r, 0, none⟩) n cap] w fun e w' => e = .returned v2 ∧ w' = w2 := by
 rw [build0] at hb
 injection hb with hb1 hb2
 subst hb1; subst hb2
 have hq := fun w => Go.Lib.run_eql_slice_nil (P := Tryz.prog) w 28 34 (some ⟨r, 0, none⟩) n cap 0 0 Tryz.underlying28
 go_enter Tryz.func21, Tryz.ntmps21
 go_wp2_with (first | (at_builtin; refine wpl_append rfl _ _ 28 28 rfl rfl rfl rfl ha ?_) | go_in)
 go_ret
 exact ⟨rfl, rfl⟩
theorem clone_K {f : Bool} {hr : List AObj} {i nid : Nat} {l : LK} (hi : hget hr i = .vec f ⟨.call, l⟩) (hlen : l.length ≤ 1000000) :
  Za9 Tryz.prog 21 [.vec i] hr nid (.vec nid) [(i, .vec f ⟨.call, l⟩), (nid, .vec false ⟨.call, l⟩), (nid + 1, .dead)] := by
 intro B w0 M0 h w ρ M vs H hag hfree hrep
 have ki : hget h i = .vec f ⟨.call, l⟩ := by rw [hag i (by rw [hi]; simp), hi]
 have n0 : ρ nid = none := hfree (nid, .vec false ⟨.call, l⟩) (by simp) (Nat.le_refl _)
 have n1 : ρ (nid + 1) = none := hfree (nid + 1, .dead) (by simp) (Nat.le_succ _)
 have oi := H.obj i
 rw [ki] at oi
 obtain ⟨hv, p1, p2⟩ := oi
 have hvs : vs = [hv] := by
  match vs, hrep with
  | [u1], hrep =>
   simp only [repL, rep] at hrep
   obtain ⟨⟨_, e1⟩, _⟩ := hrep
   rw [p1] at e1; cases e1
   rfl
 subst hvs
 have hli : i < h.length := Z13d (by rw [ki]; simp)
 have happ : Ze h [(i, .vec f ⟨.call, l⟩), (nid, .vec false ⟨.call, l⟩), (nid + 1, .dead)] = hset (hset (hset h i (.vec f ⟨.call, l⟩)) nid (.vec false ⟨.call, l⟩)) (nid + 1) .dead := rfl
 rcases p2 with ⟨rfl, h0⟩ | ⟨r, cap, us, t, rfl, q4, q5⟩
 · refine (clone_nil w).mono ?_
   rintro e w' ⟨rfl, rfl⟩
   have hle : ρ.le (ρ.put0 nid (.hdr (.slice none 0 0))) := Loc.le_put0 n0
   have hn : (ρ.put0 nid (.hdr (.slice none 0 0))) nid = some (.hdr (.slice none 0 0)) := by simp [Loc.put0]
   refine ⟨_, ρ.put0 nid (.hdr (.slice none 0 0)), M, rfl, ⟨hle, fun j hj => ?_⟩, Mem.le_refl _, ?_, by rw [rep]; exact ⟨⟨_, _, _, rfl⟩, hn⟩⟩
   · have := hj (nid, .vec false ⟨.call, l⟩) (by simp)
     simp [Loc.put0, Ne.symm this]
   · have H1 := (H.update nid (.vec false ⟨.call, l⟩) (ρ' := ρ.put0 nid (.hdr (.slice none 0 0))) (fun j hj => by simp [Loc.put0, hj]) hle (Mem.le_refl _) ⟨_, hn, .inl ⟨rfl, h0⟩⟩ (fun j b _ _ hb => ⟨hb, rfl, fun _ h => h⟩) (fun b j hb => H.own b j hb) H.mem (fun _ _ _ => rfl) (Keeps.refl _ _)).kill (nid + 1)
     rw [happ]
     refine simCongr H1 (by simp only [Z51]; omega) fun id => ?_
     simp only [Z2e]
     by_cases e1 : nid + 1 = id
     · simp [e1]
     · by_cases e2 : nid = id
       · simp [e1, e2]
       · by_cases e3 : i = id
         · subst e3; simp [e1, e2, ki]
         · simp [e1, e2, e3]
 · obtain ⟨v1, w1, ρ1, M1, hb, ho1, hM1, H1, hr1⟩ := Z1b1 (P := Tryz.prog) H (t := []) (a := ⟨#[], []⟩) (fun j => by simp [rep]) (ty := 28) (e := 34) (k := .call) (len := 0) (ps := []) (xs := []) Tryz.underlying28 (by kernel_rfl) (by kernel_rfl) rfl rfl (by decide) (nid := nid + 1) n1
   obtain ⟨i0, z, hi0, hz0, hzs, _, _⟩ := zero_of (P := Tryz.prog) M (e := 34) (k := .call) (by kernel_rfl)
   have ki1 : hget (hset h (nid + 1) (.vec false ⟨.call, []⟩)) i = .vec f ⟨.call, l⟩ := by
    rw [Z2e, if_neg (fun e => by subst e; rw [n1] at p1; cases p1)]
    exact ki
   have hrv : rep ρ1 M1 noG (.vec i) (.slice (some ⟨r, 0, none⟩) l.length cap) := by rw [rep]; exact ⟨⟨_, _, _, rfl⟩, ho1.1 _ _ p1⟩
   have hsr := src_reads H1 (hr := hset h (nid + 1) (.vec false ⟨.call, []⟩)) (fun _ _ => rfl) (k := .call) (y := .vec i) (d := ⟨.call, l⟩) (by simp only [srcOf, ki1]) hrv
   obtain ⟨hbh, _⟩ := base_hdr H1 (hr := hset h (nid + 1) (.vec false ⟨.call, []⟩)) (fun _ _ => rfl) (k := .call) (m := false) (x := .vec (nid + 1)) (b := some (nid + 1)) (f := false) (c := ⟨.call, []⟩) (by simp only [baseOf, Z2e, if_true]) hr1
   have hnid1 : ρ1 nid = none := by rw [ho1.2 nid (fun e he => by rw [List.mem_singleton.1 he]; exact Nat.succ_ne_self nid)]; exact n0
   have hsz : i0.size = 7 := by
    have : (Tryz.prog.info? 34).map (·.size) = some 7 := by kernel_rfl
    rw [hi0] at this
    simpa using this
   have hbt : i0.bytes = 88 := by
    have : (Tryz.prog.info? 34).map (·.bytes) = some 88 := by kernel_rfl
    rw [hi0] at this
    simpa using this
   obtain ⟨v2, w2, ρ2, M2, ha, ho2, hM2, H2, hr2⟩ := Z1aa (P := Tryz.prog) H1 (t := 28) (tx := 28) (ty := 28) Tryz.underlying28 Tryz.underlying28 hi0 hz0 (c := ⟨.call, []⟩) (d := ⟨.call, l⟩) (c' := ⟨.call, l⟩) rfl hsz hzs hbh hsr (by rw [hbt]; simp only [Coll.len, List.length_nil]; unfold Z18; omega) (by simp only [Coll.len, List.length_nil]; unfold maxLen; omega) nid hnid1
   refine (clone_some w w1 w2 hb ha).mono ?_
   rintro e w' ⟨rfl, rfl⟩
   refine ⟨_, ρ2, M2, rfl, ⟨Loc.le_trans ho1.1 ho2.1, fun j hj => ?_⟩, Mem.le_trans hM1 hM2, ?_, hr2⟩
   · have e1 := hj (nid, .vec false ⟨.call, l⟩) (by simp)
     have e2 := hj (nid + 1, .dead) (by simp)
     rw [ho2.2 j (fun e he => by simp only [Z105, List.cons_append, List.nil_append, List.mem_cons, List.not_mem_nil, or_false] at he; rcases he with rfl | rfl; exact e2; exact e1), ho1.2 j (fun e he => by rw [List.mem_singleton.1 he]; exact e2)]
   · rw [happ]
     refine simCongr H2 (by simp only [Z105, Ze, List.cons_append, List.nil_append, List.foldl_cons, List.foldl_nil, Z51]; omega) fun id => ?_
     simp only [Z105, Ze, List.cons_append, List.nil_append, List.foldl_cons, List.foldl_nil, Z2e]
     by_cases e1 : nid + 1 = id
     · have : nid ≠ id := by omega
       simp [e1, this]
     · by_cases e2 : nid = id
       · simp [e1, e2]
       · by_cases e3 : i = id
         · subst e3; simp [e1, e2, ki]
         · simp [e1, e2, e3]
noncomputable def clone_fact0 (f : Bool) : Fact Tryz.prog where
 f := 21
 K := factK [.c (.vec 0)] [.vec f .call] false (fun _ _ => .vec 1) (fun _ u => [.vec f ⟨.call, u.1⟩, .vec false ⟨.call, u.1⟩, .dead]) (fun _ u => [u.1.length ≤ 1000000])
 ent := Z122 (fn := Tryz.f21) (by kernel_rfl) rfl (by kernel_rfl)
 ok := fun args h nid x effs need hkk hn => by
  unfold factK at hkk
  simp only at hkk
  generalize meet _ _ args h = ids at hkk
  split at hkk
  case isFalse => cases hkk
  split at hkk
  case h_2 => cases hkk
  rename_i t u ht hu
  simp only [Option.some.injEq, Prod.mk.injEq] at hkk
  obtain ⟨rfl, rfl, rfl⟩ := hkk
  obtain ⟨hl, ho⟩ := HPL.dec_eq nid _ hu
  have he := TPL.dec_eq nid _ ht
  match ids, hl with
  | [i0], _ =>
   obtain ⟨o0, e0, f0, _⟩ := ho 0 i0 rfl
   injection e0 with e0
   subst e0
   have hk := clone_K (nid := nid) f0 (hn _ mS)
   have ha : args = [.vec i0] := he
   rw [ha]
   exact hk
theorem clone_mask : ∀ k ∈ [0], k < 1 := by decide
noncomputable def cloneA_fact : Fact Tryz.prog := Z8c (clone_fact0 false) [.c (.vec 0)] [.vec false .call] (fun _ _ => .vec 1) (fun _ u => [.vec false ⟨.call, u.1⟩, .vec false ⟨.call, u.1⟩, .dead]) (fun _ u => [u.1.length ≤ 1000000]) rfl [0]
 (fun t u k hk => ⟨clone_mask k hk, by
   simp only [List.mem_cons, List.not_mem_nil, or_false] at hk
   subst hk
   rfl⟩)
end Go.Proofs.YtkledlcmhbjadaaGreat
