/- The driver, plainly: what is told: the maps tell what the lists tell. -/
import Derived.Test.YtkledlcmhbjadaaGreatDPLE
import Derived.Test.YtkledlcmhbjadaaGreatDVols
import Derived.Test.YtkledlcmhbjadaaGreatDNew
import Derived.Test.YtkledlcmhbjadaaGreatDRNew
set_option linter.unusedVariables false
set_option linter.unusedSimpArgs false
set_option maxRecDepth 100000
namespace Go.Proofs.YtkledlcmhbjadaaGreat
open Go Go.Eng
section
variable {b1 : LA} {b2 : LB} {b3 : LC} {b4 : LD} {z : LZ} {v : LV} {s : LS} {q : LQ}
theorem PutLF_mem (n : BA) : ∀ l : List BA, Z91 n l = true ↔ n ∈ l
 | [] => by simp [Z91]
 | o :: r => by
  unfold Z91
  by_cases h : o = n
  · rw [decide_eq_true h, cond_true, h]; simp
  · rw [decide_eq_false h, cond_false, PutLF_mem n r, List.mem_cons]
    constructor
    · exact .inr
    · rintro (e | e)
      · exact absurd e.symm h
      · exact e
theorem Put_R (h : RR b1 b2 b3 b4 z v s q) (name node : BA) (tag : Int) :
  (Z8f name node tag b1 b2 b3 b4).1 = (Z7a name node tag z v s q).1 ∧
  RR b1 (Z8f name node tag b1 b2 b3 b4).2 b3 b4 z (Z7a name node tag z v s q).2 s q := by
 unfold Z8f Z7a
 simp only [Zcd, Ze4, vset_str]
 rcases Z115 z v s q name with ⟨e, hn⟩ | ⟨i, x, e, hi, hx, hd, hm, hnm⟩
 · rw [h.v.none hn, e]
   exact ⟨rfl, h⟩
 · obtain ⟨en, he, hr⟩ := h.v.bwd x hm
   rw [hnm] at he
   rw [he, e, decide_eq_false (by omega : ¬ (i : Int) < 0), Int.toNat_natCast, hd]
   simp only [Option.isSome_some, Option.getD_some, Option.bind_some, Bool.not_true, cond_false, hr.size, hr.zone]
   have hg := hr.nodes.get node
   by_cases hmem : node ∈ x.nodes
   · rw [if_pos hmem] at hg
     rw [hg, (PutLF_mem node x.nodes).2 hmem]
     simp only [Option.getD_some, Bool.not_true, cond_false, cond_true]
     refine ⟨trivial, h.z, ?_, h.s, h.q, fun w hw => ?_, fun w hw => ?_⟩
     · have := h.v.set hx (y := ⟨x.name, x.size, x.zone, tag, x.nodes⟩) (e := ⟨x.size, x.zone, tag, en.nodes⟩) rfl ⟨rfl, rfl, rfl, hr.nodes⟩
       rw [hnm] at this ⊢
       exact this
     · rcases (Z67 _ h.v.rise.nodup hx w).1 hw with rfl | ⟨hw, _⟩
       · exact h.sz x hm
       · exact h.sz w hw
     · rcases (Z67 _ h.v.rise.nodup hx w).1 hw with rfl | ⟨hw, _⟩
       · exact h.zn x hm
       · exact h.zn w hw
   · rw [if_neg hmem] at hg
     have hp : Z91 node x.nodes = false := by
      cases hp : Z91 node x.nodes with
      | false => rfl
      | true => exact absurd ((PutLF_mem node x.nodes).1 hp) hmem
     rw [hg, hp]
     exact ⟨rfl, h⟩
theorem Room_R (h : RR b1 b2 b3 b4 z v s q) (n : BA) : Zd3 n b1 b2 b3 b4 = Z269 n z v s q := by
 unfold Zd3 Z269
 simp only [Ze4]
 rcases zone_at z v s q n with ⟨e, hn⟩ | ⟨i, x, e, hi, hx, hd, hm, hnm⟩
 · rw [h.z.none hn, e]
   rfl
 · have hy := h.z.bwd x hm
   rw [hnm] at hy
   rw [hy, e, decide_eq_false (by omega : ¬ (i : Int) < 0), Int.toNat_natCast, hd]
   rfl
theorem itLF_id : ∀ (l a : List BA), Z21 l a = a ++ l
 | [], a => by simp [Z21]
 | o :: r, a => by unfold Z21; rw [itLF_id r]; simp
theorem Volumes_it (b2 : LB) : ∀ (l : List BA) (a : LV), Z43 b2 l a = a ++ l.map fun o => ⟨o, ((vget b2 o).getD default).size, ((vget b2 o).getD default).zone, ((vget b2 o).getD default).tag, Z29 (((vget b2 o).getD default).nodes.map Prod.fst)⟩
 | [], a => by simp [Z43]
 | o :: r, a => by unfold Z43; rw [Volumes_it b2 r, itLF_id]; simp
theorem RN.sorted {m : List (BA × Bool)} {l : List BA} (h : RN m l) : Z29 (m.map Prod.fst) = l := by
 refine Z79.ext id (Z15a h.nd) h.rise fun x => ?_
 rw [Z1d6, ← Z74, h.get x]
 by_cases hx : x ∈ l
 · rw [if_pos hx]; simp [hx]
 · rw [if_neg hx]; simp [hx]
theorem RV.sorted (h : RV b2 v) : Z29 (b2.map Prod.fst) = v.map XVol.name := by
 refine Z79.ext id (Z15a h.nd) ((Z213 _).1 h.rise) fun n => ?_
 rw [Z1d6, ← Z74, List.mem_map]
 constructor
 · intro hs
   obtain ⟨e, he⟩ := Option.isSome_iff_exists.1 hs
   obtain ⟨x, hx, h1, _⟩ := h.fwd n e he
   exact ⟨x, hx, h1⟩
 · rintro ⟨x, hx, rfl⟩
   obtain ⟨e, he, _⟩ := h.bwd x hx
   rw [he]; rfl
theorem Z12d (h : RR b1 b2 b3 b4 z v s q) : Z61 b1 b2 b3 b4 = v := by
 unfold Z61
 rw [Volumes_it, h.v.sorted, List.nil_append, List.map_map]
 conv => rhs; rw [← List.map_id v]
 refine List.map_congr_left fun x hx => ?_
 obtain ⟨e, he, hr⟩ := h.v.bwd x hx
 simp only [Function.comp_def, Zcd, he, Option.getD_some, hr.size, hr.zone, hr.tag, hr.nodes.sorted, id]
theorem Z293 : ∀ (l a : LV), Z262 l a = a ++ l
 | [], a => by simp [Z262]
 | o :: r, a => by unfold Z262; rw [Z293 r]; simp
theorem rVolumes_id (z : LZ) (v : LV) (s : LS) (q : LQ) : Z26c z v s q = v := by
 unfold Z26c
 rw [Z293, List.nil_append]
theorem Snaps_it (b3 : LC) : ∀ (l : List BA) (a : LS), Z4d b3 l a = a ++ l.map fun o => ⟨o, ((mget (k := .str) (v := .sn) b3 o).getD default).size, ((mget (k := .str) (v := .sn) b3 o).getD default).tag⟩
 | [], a => by simp [Z4d]
 | o :: r, a => by unfold Z4d; rw [Snaps_it b3 r]; simp
theorem RS.sorted (h : RS b3 s) : Z29 (b3.map Prod.fst) = s.map XSnap.name := by
 refine Z79.ext id (Z15a h.nd) ((Z213 _).1 h.rise) fun n => ?_
 rw [Z1d6, ← Z74, List.mem_map]
 constructor
 · intro hs
   obtain ⟨e, he⟩ := Option.isSome_iff_exists.1 hs
   obtain ⟨x, hx, h1, _⟩ := h.fwd n e he
   exact ⟨x, hx, h1⟩
 · rintro ⟨x, hx, rfl⟩
   rw [h.bwd x hx]; rfl
theorem Snaps_R (h : RR b1 b2 b3 b4 z v s q) : Z9c b1 b2 b3 b4 = s := by
 unfold Z9c
 rw [Snaps_it, h.s.sorted, List.nil_append, List.map_map]
 conv => rhs; rw [← List.map_id s]
 refine List.map_congr_left fun x hx => ?_
 have he := h.s.bwd x hx
 simp only [Function.comp_def, Ze4, he, Option.getD_some, id]
end
theorem Z1a8 (a : LV) (i : Nat) : ∀ (l : List BA) (j : Nat), (∀ k x, l[k]? = some x → ((a.getD i default).nodes).getD (j + k) default = x) → Z3d a i l j = false
 | [], _, _ => rfl
 | o :: r, j, h => by
  unfold Z3d
  have h0 := h 0 o rfl
  rw [Nat.add_zero] at h0
  rw [h0, decide_eq_true rfl]
  simp only [Bool.not_true, cond_false]
  exact Z1a8 a i r (j + 1) fun k x hx => by rw [Nat.add_assoc, Nat.add_comm 1]; exact h (k + 1) x (by simpa using hx)
theorem Z1a7 (a : LV) : ∀ (l : LV) (i : Nat), (∀ k x, l[k]? = some x → a.getD (i + k) default = x) → Z37 a l i = false
 | [], _, _ => rfl
 | o :: r, i, h => by
  unfold Z37
  have h0 := h 0 o rfl
  rw [Nat.add_zero] at h0
  have hn := Z1a8 a i o.nodes 0 (by intro k x hx; rw [h0, Nat.zero_add, List.getD_eq_getElem?_getD, hx]; rfl)
  rw [hn, h0]
  simp only [decide_true, beq_self_eq_true, Bool.not_true, cond_false]
  exact Z1a7 a r (i + 1) fun k x hx => by rw [Nat.add_assoc, Nat.add_comm 1]; exact h (k + 1) x (by simpa using hx)
theorem sameVols_self (a : LV) : Z40 a a = true := by
 unfold Z40
 rw [Z1a7 a a 0 (by intro k x hx; rw [Nat.zero_add, List.getD_eq_getElem?_getD, hx]; rfl)]
 simp
theorem Z15b (a : LS) : ∀ (l : LS) (i : Nat), (∀ k x, l[k]? = some x → a.getD (i + k) default = x) → Z50 a l i = false
 | [], _, _ => rfl
 | o :: r, i, h => by
  unfold Z50
  have h0 := h 0 o rfl
  rw [Nat.add_zero] at h0
  rw [h0]
  simp only [decide_true, beq_self_eq_true, Bool.and_self, Bool.not_true, cond_false]
  exact Z15b a r (i + 1) fun k x hx => by rw [Nat.add_assoc, Nat.add_comm 1]; exact h (k + 1) x (by simpa using hx)
theorem sameSnaps_self (a : LS) : Z5d a a = true := by
 unfold Z5d
 rw [Z15b a a 0 (by intro k x hx; rw [Nat.zero_add, List.getD_eq_getElem?_getD, hx]; rfl)]
 simp
theorem Z22c : ∀ (l : LZ) (acc : LA) (pre : LZ), RZ acc pre → (∀ x ∈ l, Z1f x.name = true ∧ 0 ≤ x.room ∧ x.room ≤ 1125899906842624) → ((pre ++ l).map XZone.name).Nodup → (Z42 l acc).1 = false ∧ RZ (Z42 l acc).2 (pre ++ l)
 | [], acc, pre, h, _, _ => by rw [List.append_nil]; exact ⟨rfl, h⟩
 | o :: r, acc, pre, h, ho, hn => by
  unfold Z42
  obtain ⟨h1, h2, h3⟩ := ho o mS
  have hno : ∀ x ∈ pre, x.name ≠ o.name := by
   intro x hx e
   rw [List.map_append, List.nodup_append] at hn
   exact hn.2.2 x.name (List.mem_map.2 ⟨x, hx, rfl⟩) o.name (by simp) e
  simp only [Ze4, Z13b]
  rw [h.none hno, h1, decide_eq_false (by omega : ¬ o.room < 0), decide_eq_false (by omega : ¬ o.room > 1125899906842624)]
  simp only [Option.isSome_none, cond_false, Bool.not_true]
  have e : pre ++ o :: r = (pre ++ [o]) ++ r := by simp
  rw [e] at hn ⊢
  refine Z22c r _ (pre ++ [o]) ⟨Zb2 h.nd _ _, ?_, fun n f hf => ?_, fun x hx => ?_⟩ (fun x hx => ho x (mN hx)) hn
  · rw [List.map_append] at hn
    exact (List.nodup_append.1 hn).1
  · rw [Z52] at hf
    split at hf
    · rename_i h4
      injection hf with hf
      exact ⟨o, by simp, h4, hf.symm⟩
    · obtain ⟨x, hx, q1, q2⟩ := h.fwd n f hf
      exact ⟨x, by simp [hx], q1, q2⟩
  · rcases List.mem_append.1 hx with hx | hx
    · rw [Z52, if_neg (Ne.symm (hno x hx))]; exact h.bwd x hx
    · rw [List.mem_singleton.1 hx, Z52, if_pos rfl]
theorem RV.empty : RV [] [] := ⟨by simp, by simp [Z79], fun n e h => by simp [aget] at h, fun x hx => by cases hx⟩
theorem RS.empty : RS [] [] := ⟨by simp, by simp [Z79], fun n e h => by simp [aget] at h, fun x hx => by cases hx⟩
theorem RD.empty : RD [] [] := ⟨by simp, by simp, fun n e h => by simp [aget] at h, fun x hx => by cases hx⟩
theorem RZ.empty : RZ [] [] := ⟨by simp, by simp, fun n e h => by simp [aget] at h, fun x hx => by cases hx⟩
theorem RR.new {b1 : LA} {z : LZ} (h : RZ b1 z) : RR b1 [] [] [] z [] [] [] := ⟨h, RV.empty, RS.empty, RD.empty, (fun x hx => by cases hx), (fun x hx => by cases hx)⟩
end Go.Proofs.YtkledlcmhbjadaaGreat
