/- The driver: what is known of Fork. -/
import Derived.Test.YtpffbkbadnhmmaaDForkB
set_option linter.unusedVariables false
set_option linter.unusedSimpArgs false
set_option maxRecDepth 100000
namespace Go.Proofs.Ytpffbkbadnhmmaa
open Go Go.Eng
open Go.RowKit (Below)

def fkLoc (ρ : Go.Eng.Loc) (nid N S : Nat) : Go.Eng.Loc :=
 ⟨fun i => if i = nid then some (.blk (N + 4)) else if i = nid + 1 then some (.blk N) else if i = nid + 2 then some (.blk (N + 1)) else if i = nid + 3 then some (.blk (N + 2)) else if i = nid + 4 then some (.blk (N + 3)) else ρ i,
  fun r => if r < N then ρ.own r else if S ≤ r then none else if r = N then some (nid + 1) else if r = N + 2 then some (nid + 3) else if r = N + 3 then some (nid + 4) else if r = N + 4 then some nid else some (nid + 2)⟩
theorem fk_le {ρ : Go.Eng.Loc} {nid N S : Nat} (h : ∀ k, k < 5 → ρ (nid + k) = none) : ρ.le (fkLoc ρ nid N S) := by
 intro i r hr
 have hne : ∀ k, k < 5 → i ≠ nid + k := fun k hk e => by subst e; rw [h k hk] at hr; cases hr
 show (if i = nid then _ else _) = _
 rw [if_neg (show i ≠ nid from hne 0 (by omega)), if_neg (hne 1 (by omega)), if_neg (hne 2 (by omega)), if_neg (hne 3 (by omega)), if_neg (hne 4 (by omega))]
 exact hr
def fkEffs (i0 i1 i2 i3 i4 nid : Nat) (a1 : List (ByteArray × Int)) (a2 : List (ByteArray × XVn)) (a3 : List (ByteArray × XSn)) (a4 : List (XTgt × XDone)) : Eff :=
 [(i0, .cells 102 [.map i1, .map i2, .map i3, .map i4]), (i1, .map ⟨.str, .int .i64, a1⟩), (i2, .vols a2 none), (i3, .map ⟨.str, .sn, a3⟩), (i4, .map ⟨.tgt, .done, a4⟩),
  (nid, .cells 102 [.map (nid + 1), .map (nid + 2), .map (nid + 3), .map (nid + 4)]), (nid + 1, .map ⟨.str, .int .i64, a1⟩), (nid + 2, .vols a2 none), (nid + 3, .map ⟨.str, .sn, a3⟩), (nid + 4, .map ⟨.tgt, .done, a4⟩)]
theorem fork_K {hr : List AObj} {i0 i1 i2 i3 i4 nid : Nat} {a1 : List (ByteArray × Int)} {a2 : List (ByteArray × XVn)} {a3 : List (ByteArray × XSn)} {a4 : List (XTgt × XDone)}
  (h0 : hget hr i0 = .cells 102 [.map i1, .map i2, .map i3, .map i4]) (h1 : hget hr i1 = .map ⟨.str, .int .i64, a1⟩) (h2 : hget hr i2 = .vols a2 none) (h3 : hget hr i3 = .map ⟨.str, .sn, a3⟩) (h4 : hget hr i4 = .map ⟨.tgt, .done, a4⟩) :
  KSound Try.prog 34 [.ptr i0 0] hr nid (.ptr nid 0) (fkEffs i0 i1 i2 i3 i4 nid a1 a2 a3 a4) := by
 intro B w0 M0 h w ρ M vs H hag hfree hrep
 have k0 : hget h i0 = .cells 102 [.map i1, .map i2, .map i3, .map i4] := by rw [hag i0 (by rw [h0]; simp), h0]
 have k1 : hget h i1 = .map ⟨.str, .int .i64, a1⟩ := by rw [hag i1 (by rw [h1]; simp), h1]
 have k2 : hget h i2 = .vols a2 none := by rw [hag i2 (by rw [h2]; simp), h2]
 have k3 : hget h i3 = .map ⟨.str, .sn, a3⟩ := by rw [hag i3 (by rw [h3]; simp), h3]
 have k4 : hget h i4 = .map ⟨.tgt, .done, a4⟩ := by rw [hag i4 (by rw [h4]; simp), h4]
 have hnew : ∀ k, k < 5 → ρ (nid + k) = none := fun k hk => by
  match k, hk with
  | 0, _ => exact hfree (nid, .cells 102 [.map (nid + 1), .map (nid + 2), .map (nid + 3), .map (nid + 4)]) (by simp [fkEffs]) (Nat.le_refl _)
  | 1, _ => exact hfree (nid + 1, .map ⟨.str, .int .i64, a1⟩) (by simp [fkEffs]) (Nat.le_add_right _ _)
  | 2, _ => exact hfree (nid + 2, .vols a2 none) (by simp [fkEffs]) (Nat.le_add_right _ _)
  | 3, _ => exact hfree (nid + 3, .map ⟨.str, .sn, a3⟩) (by simp [fkEffs]) (Nat.le_add_right _ _)
  | 4, _ => exact hfree (nid + 4, .map ⟨.tgt, .done, a4⟩) (by simp [fkEffs]) (Nat.le_add_right _ _)
 have o0 := H.obj i0; rw [k0] at o0
 have o1 := H.obj i1; rw [k1] at o1
 have o2 := H.obj i2; rw [k2] at o2
 have o3 := H.obj i3; rw [k3] at o3
 have o4 := H.obj i4; rw [k4] at o4
 obtain ⟨rD, us, d1, d2, d3, d4, d5⟩ := o0
 obtain ⟨rR, eR, cR, r1, r2, r3, r4, r5⟩ := o1
 obtain ⟨rV, eV, cV, xs, v1, v2, v3, v4, v5, v6, v7, _⟩ := o2
 obtain ⟨rS, eS, cS, s1, s2, s3, s4, s5⟩ := o3
 obtain ⟨rP, eP, cP, p1, p2, p3, p4, p5⟩ := o4
 have hus : us = [.map (some rR), .map (some rV), .map (some rS), .map (some rP)] := by
  match us, d4 with
  | [u1, u2, u3, u4], d4 =>
   simp only [repL, rep] at d4
   obtain ⟨⟨q1, e1, rfl⟩, ⟨q2, e2, rfl⟩, ⟨q3, e3, rfl⟩, ⟨q4, e4, rfl⟩, _⟩ := d4
   rw [r1] at e1; rw [v1] at e2; rw [s1] at e3; rw [p1] at e4
   cases e1; cases e2; cases e3; cases e4
   rfl
 subst hus
 have hvs : vs = [.pointer (some ⟨rD, 0, none⟩)] := by
  match vs, hrep with
  | [u1], hrep =>
   simp only [repL, rep] at hrep
   obtain ⟨⟨q1, e1, rfl⟩, _⟩ := hrep
   rw [d1] at e1; cases e1
   rfl
 subst hvs
 have hspot : ∀ e ∈ eV.toList, ∃ q en cl, spotOf e.val = some q ∧ w.heap[q]? = some (.map en cl) := fun e he => by
  obtain ⟨q, en, cl, g1, g2⟩ := inVs_spot v6 v4 e he
  exact ⟨q, en, cl, g1, g2⟩
 refine (fork_raw w d3 r3 v3 s3 p3 M xs v4 v5 hspot).mono ?_
 rintro e w' ⟨rfl, hb, q1, q2, q3, q4, g, q5, q6, q7⟩
 have hN : w.heap.size + 4 < w'.heap.size := (Array.getElem?_eq_some_iff.1 q4).1
 have hle : ρ.le (fkLoc ρ nid w.heap.size w'.heap.size) := fk_le hnew
 have hM : ∀ r off, w.heap.size ≤ r → M r off = none := fun r off hr => Mem.none_new H hr off
 refine ⟨_, fkLoc ρ nid w.heap.size w'.heap.size, M, rfl, ⟨hle, fun i hi => ?_⟩, Mem.le_refl _, ?_, ?_⟩
 · have n0 := hi (nid, .cells 102 [.map (nid + 1), .map (nid + 2), .map (nid + 3), .map (nid + 4)]) (by simp [fkEffs])
   have n1 := hi (nid + 1, .map ⟨.str, .int .i64, a1⟩) (by simp [fkEffs])
   have n2 := hi (nid + 2, .vols a2 none) (by simp [fkEffs])
   have n3 := hi (nid + 3, .map ⟨.str, .sn, a3⟩) (by simp [fkEffs])
   have n4 := hi (nid + 4, .map ⟨.tgt, .done, a4⟩) (by simp [fkEffs])
   show (if i = nid then _ else _) = _
   rw [if_neg (Ne.symm n0), if_neg (Ne.symm n1), if_neg (Ne.symm n2), if_neg (Ne.symm n3), if_neg (Ne.symm n4)]
 · refine H.adopt hb _ ⟨hle, fun i hi => ?_⟩ (fun r hr => if_pos hr) (fun r i hr hi => ?_) ?_
   · have n0 := hi (nid, .cells 102 [.map (nid + 1), .map (nid + 2), .map (nid + 3), .map (nid + 4)]) (by simp [fkEffs])
     have n1 := hi (nid + 1, .map ⟨.str, .int .i64, a1⟩) (by simp [fkEffs])
     have n2 := hi (nid + 2, .vols a2 none) (by simp [fkEffs])
     have n3 := hi (nid + 3, .map ⟨.str, .sn, a3⟩) (by simp [fkEffs])
     have n4 := hi (nid + 4, .map ⟨.tgt, .done, a4⟩) (by simp [fkEffs])
     show (if i = nid then _ else _) = _
     rw [if_neg (Ne.symm n0), if_neg (Ne.symm n1), if_neg (Ne.symm n2), if_neg (Ne.symm n3), if_neg (Ne.symm n4)]
   · have hi : (if r < w.heap.size then ρ.own r else if w'.heap.size ≤ r then none else _) = some i := hi
     rw [if_neg (by omega)] at hi
     split at hi
     · cases hi
     · omega
   · have hown : ∀ r, w.heap.size ≤ r → r < w'.heap.size → (fkLoc ρ nid w.heap.size w'.heap.size).own r = if r = w.heap.size then some (nid + 1) else if r = w.heap.size + 2 then some (nid + 3) else if r = w.heap.size + 3 then some (nid + 4) else if r = w.heap.size + 4 then some nid else some (nid + 2) := fun r g1 g2 => by
       show (if r < w.heap.size then ρ.own r else if w'.heap.size ≤ r then none else _) = _
       rw [if_neg (by omega), if_neg (by omega)]
     have l0 : fkLoc ρ nid w.heap.size w'.heap.size nid = some (.blk (w.heap.size + 4)) := if_pos rfl
     have l1 : fkLoc ρ nid w.heap.size w'.heap.size (nid + 1) = some (.blk w.heap.size) := by simp [fkLoc]
     have l2 : fkLoc ρ nid w.heap.size w'.heap.size (nid + 2) = some (.blk (w.heap.size + 1)) := by simp [fkLoc]
     have l3 : fkLoc ρ nid w.heap.size w'.heap.size (nid + 3) = some (.blk (w.heap.size + 2)) := by simp [fkLoc]
     have l4 : fkLoc ρ nid w.heap.size w'.heap.size (nid + 4) = some (.blk (w.heap.size + 3)) := by simp [fkLoc]
     intro e he
     simp only [fkEffs, List.mem_cons, List.not_mem_nil, or_false] at he
     rcases he with rfl | rfl | rfl | rfl | rfl | rfl | rfl | rfl | rfl | rfl
     · exact .inl k0
     · exact .inl k1
     · exact .inl k2
     · exact .inl k3
     · exact .inl k4
     · refine .inr ⟨w.heap.size + 4, _, l0, by rw [hown _ (by omega) (by omega)]; simp, q4, ?_, fun off => hM _ off (by omega)⟩
       simp only [repL, rep]
       exact ⟨⟨_, l1, rfl⟩, ⟨_, l2, rfl⟩, ⟨_, l3, rfl⟩, ⟨_, l4, rfl⟩, trivial⟩
     · exact .inr ⟨w.heap.size, eR, cR, l1, by rw [hown _ (by omega) (by omega)]; simp, q1, r4, r5⟩
     · have hall : ∀ e ∈ eV.toList, (g e.born).isSome = true := fun e he => by obtain ⟨q', g1, _⟩ := q6 e he; rw [g1]; rfl
       refine .inr ⟨w.heap.size + 1, _, cV, List.zipWith (xG g) xs eV.toList, l2, by rw [hown _ (by omega) (by omega)]; simp, q5, by rw [Array.toList_map]; exact repEs_G g xs _ v4, stamped_G g v5, ?_, ?_, trivial⟩
       · refine inVs_G a2 xs eV.toList v6 v4 fun e he => ?_
         obtain ⟨q', g1, g2, g3, g4⟩ := q6 e he
         refine ⟨q', g1, by omega, ?_, fun q hq => g4 q hq⟩
         rw [hown q' (by omega) g3, if_neg (by omega), if_neg (by omega), if_neg (by omega), if_neg (by omega)]
       · rw [spots_G xs eV.toList v4 hall]
         exact nodup_G q7 _ v5.2.1 hall
     · exact .inr ⟨w.heap.size + 2, eS, cS, l3, by rw [hown _ (by omega) (by omega)]; simp, q2, s4, s5⟩
     · exact .inr ⟨w.heap.size + 3, eP, cP, l4, by rw [hown _ (by omega) (by omega)]; simp, q3, p4, p5⟩
 · rw [rep]
   exact ⟨_, if_pos rfl, rfl⟩
noncomputable def dD_Fork_fact0 : Fact Try.prog where
 f := 34
 K := factK [.c (.ptr 0 0)] [.cells 102 [.map 1, .map 2, .map 3, .map 4], .map .str (.int .i64), .vols, .map .str .sn, .map .tgt .done] false (fun _ _ => .ptr 5 0)
  (fun _ u => (.cells 102 [.map 1, .map 2, .map 3, .map 4] :: oM u.2.1 u.2.2.1 u.2.2.2.1 u.2.2.2.2.1 (.cells 102 [.map 6, .map 7, .map 8, .map 9] :: oM u.2.1 u.2.2.1 u.2.2.2.1 u.2.2.2.2.1 []))) (fun _ _ => [])
 ent := ent_of (fn := Try.f34) (by kernel_rfl) rfl (by kernel_rfl)
 ok := fun args h nid x effs need hkk _ => by
  unfold factK at hkk
  simp only at hkk
  generalize meet _ _ args h = ids at hkk
  split at hkk
  case isFalse => cases hkk
  split at hkk
  case h_2 => cases hkk
  rename_i t u ht hu
  simp only [Option.some.injEq, Prod.mk.injEq] at hkk
  obtain ⟨rfl, rfl, rfl⟩ := hkk
  obtain ⟨hl, ho⟩ := HPL.dec_eq nid _ hu
  have he := TPL.dec_eq nid _ ht
  match ids, hl with
  | [i0, i1, i2, i3, i4], _ =>
   obtain ⟨o0, e0, f0, _⟩ := ho 0 i0 rfl
   obtain ⟨o1, e1, f1, _⟩ := ho 1 i1 rfl
   obtain ⟨o2, e2, f2, _⟩ := ho 2 i2 rfl
   obtain ⟨o3, e3, f3, _⟩ := ho 3 i3 rfl
   obtain ⟨o4, e4, f4, _⟩ := ho 4 i4 rfl
   injection e0 with e0; injection e1 with e1; injection e2 with e2; injection e3 with e3; injection e4 with e4
   subst e0; subst e1; subst e2; subst e3; subst e4
   have hk := fork_K (nid := nid) f0 f1 f2 f3 f4
   have ha : args = [.ptr i0 0] := he
   rw [ha]
   exact hk
theorem fork_mask : ∀ k ∈ [0, 1, 2, 3, 4], k < 5 := by decide
noncomputable def dD_Fork_fact : Fact Try.prog := factThin dD_Fork_fact0 [.c (.ptr 0 0)] [.cells 102 [.map 1, .map 2, .map 3, .map 4], .map .str (.int .i64), .vols, .map .str .sn, .map .tgt .done] (fun _ _ => .ptr 5 0)
  (fun _ u => (.cells 102 [.map 1, .map 2, .map 3, .map 4] :: oM u.2.1 u.2.2.1 u.2.2.2.1 u.2.2.2.2.1 (.cells 102 [.map 6, .map 7, .map 8, .map 9] :: oM u.2.1 u.2.2.1 u.2.2.2.1 u.2.2.2.2.1 []))) (fun _ _ => []) rfl [0, 1, 2, 3, 4]
 (fun t u k hk => ⟨fork_mask k hk, by
   simp only [List.mem_cons, List.not_mem_nil, or_false] at hk
   rcases hk with rfl | rfl | rfl | rfl | rfl <;> rfl⟩)
end Go.Proofs.Ytpffbkbadnhmmaa
