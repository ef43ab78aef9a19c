/- The driver, plainly: what is told: the maps tell what the lists tell. -/
import Derived.Test.YtpffbkbadnhmmaaDPLE
import Derived.Test.YtpffbkbadnhmmaaDVols
import Derived.Test.YtpffbkbadnhmmaaDNew
import Derived.Test.YtpffbkbadnhmmaaDRNew
set_option linter.unusedVariables false
set_option linter.unusedSimpArgs false
set_option maxRecDepth 100000
namespace Go.Proofs.Ytpffbkbadnhmmaa
open Go Go.Eng
section
variable {b1 : List (ByteArray × Int)} {b2 : List (ByteArray × XVn)} {b3 : List (ByteArray × XSn)} {b4 : List (XTgt × XDone)} {z : List XZone} {v : List XVol} {s : List XSnap} {q : List XDone}
theorem PutLF_mem (n : ByteArray) : ∀ l : List ByteArray, Z57 n l = true ↔ n ∈ l
 | [] => by simp [Z57]
 | o :: r => by
  unfold Z57
  by_cases h : o = n
  · rw [decide_eq_true h, cond_true, h]; simp
  · rw [decide_eq_false h, cond_false, PutLF_mem n r, List.mem_cons]
    constructor
    · exact .inr
    · rintro (e | e)
      · exact absurd e.symm h
      · exact e
theorem Put_R (h : RR b1 b2 b3 b4 z v s q) (name node : ByteArray) (tag : Int) :
  (Z4c name node tag b1 b2 b3 b4).1 = (Z48 name node tag z v s q).1 ∧
  RR b1 (Z4c name node tag b1 b2 b3 b4).2 b3 b4 z (Z48 name node tag z v s q).2 s q := by
 unfold Z4c Z48
 simp only [vget_str, mget_str, vset_str]
 rcases vol_at z v s q name with ⟨e, hn⟩ | ⟨i, x, e, hi, hx, hd, hm, hnm⟩
 · rw [h.v.none hn, e]
   exact ⟨rfl, h⟩
 · obtain ⟨en, he, hr⟩ := h.v.bwd x hm
   rw [hnm] at he
   rw [he, e, decide_eq_false (by omega : ¬ (i : Int) < 0), Int.toNat_natCast, hd]
   simp only [Option.isSome_some, Option.getD_some, Option.bind_some, Bool.not_true, cond_false, hr.size, hr.zone]
   have hg := hr.nodes.get node
   by_cases hmem : node ∈ x.nodes
   · rw [if_pos hmem] at hg
     rw [hg, (PutLF_mem node x.nodes).2 hmem]
     simp only [Option.getD_some, Bool.not_true, cond_false, cond_true]
     refine ⟨trivial, h.z, ?_, h.s, h.q, fun w hw => ?_, fun w hw => ?_⟩
     · have := h.v.set hx (y := ⟨x.name, x.size, x.zone, tag, x.nodes⟩) (e := ⟨x.size, x.zone, tag, en.nodes⟩) rfl ⟨rfl, rfl, rfl, hr.nodes⟩
       rw [hnm] at this ⊢
       exact this
     · rcases (mem_set_nd _ h.v.rise.nodup hx w).1 hw with rfl | ⟨hw, _⟩
       · exact h.sz x hm
       · exact h.sz w hw
     · rcases (mem_set_nd _ h.v.rise.nodup hx w).1 hw with rfl | ⟨hw, _⟩
       · exact h.zn x hm
       · exact h.zn w hw
   · rw [if_neg hmem] at hg
     have hp : Z57 node x.nodes = false := by
      cases hp : Z57 node x.nodes with
      | false => rfl
      | true => exact absurd ((PutLF_mem node x.nodes).1 hp) hmem
     rw [hg, hp]
     exact ⟨rfl, h⟩
theorem Room_R (h : RR b1 b2 b3 b4 z v s q) (n : ByteArray) : Z1c n b1 b2 b3 b4 = Z63 n z v s q := by
 unfold Z1c Z63
 simp only [mget_str]
 rcases zone_at z v s q n with ⟨e, hn⟩ | ⟨i, x, e, hi, hx, hd, hm, hnm⟩
 · rw [h.z.none hn, e]
   rfl
 · have hy := h.z.bwd x hm
   rw [hnm] at hy
   rw [hy, e, decide_eq_false (by omega : ¬ (i : Int) < 0), Int.toNat_natCast, hd]
   rfl
theorem of_tgt' (v : Int) (n : ByteArray) : Z27 v n = ⟨Z2f v, n⟩ := rfl
theorem Seen_R (h : RR b1 b2 b3 b4 z v s q) (vb : Int) (n : ByteArray) : Z55 vb n b1 b2 b3 b4 = rD_SeenF vb n z v s q := by
 unfold Z55 rD_SeenF
 simp only [mget_tgt, of_tgt']
 rcases last_at z v s q vb n with ⟨e, hn⟩ | ⟨i, x, e, hi, hx, hd, hm, hnm⟩
 · rw [h.q.none hn, e]
   rfl
 · have hy := h.q.bwd x hm
   rw [hnm] at hy
   rw [hy, e, decide_eq_false (by omega : ¬ (i : Int) < 0), Int.toNat_natCast, hd]
   rfl
theorem itLF_id : ∀ (l a : List ByteArray), Z19 l a = a ++ l
 | [], a => by simp [Z19]
 | o :: r, a => by unfold Z19; rw [itLF_id r]; simp
theorem Volumes_it (b2 : List (ByteArray × XVn)) : ∀ (l : List ByteArray) (a : List XVol), Z2d b2 l a = a ++ l.map fun o => ⟨o, ((vget b2 o).getD default).size, ((vget b2 o).getD default).zone, ((vget b2 o).getD default).tag, sortB (((vget b2 o).getD default).nodes.map Prod.fst)⟩
 | [], a => by simp [Z2d]
 | o :: r, a => by unfold Z2d; rw [Volumes_it b2 r, itLF_id]; simp
theorem RN.sorted {m : List (ByteArray × Bool)} {l : List ByteArray} (h : RN m l) : sortB (m.map Prod.fst) = l := by
 refine Rising.ext id (sortB_rising h.nd) h.rise fun x => ?_
 rw [sortB_mem, ← aget_isSome, h.get x]
 by_cases hx : x ∈ l
 · rw [if_pos hx]; simp [hx]
 · rw [if_neg hx]; simp [hx]
theorem RV.sorted (h : RV b2 v) : sortB (b2.map Prod.fst) = v.map XVol.name := by
 refine Rising.ext id (sortB_rising h.nd) ((rising_map _).1 h.rise) fun n => ?_
 rw [sortB_mem, ← aget_isSome, List.mem_map]
 constructor
 · intro hs
   obtain ⟨e, he⟩ := Option.isSome_iff_exists.1 hs
   obtain ⟨x, hx, h1, _⟩ := h.fwd n e he
   exact ⟨x, hx, h1⟩
 · rintro ⟨x, hx, rfl⟩
   obtain ⟨e, he, _⟩ := h.bwd x hx
   rw [he]; rfl
theorem Volumes_R (h : RR b1 b2 b3 b4 z v s q) : Z17 b1 b2 b3 b4 = v := by
 unfold Z17
 rw [Volumes_it, h.v.sorted, List.nil_append, List.map_map]
 conv => rhs; rw [← List.map_id v]
 refine List.map_congr_left fun x hx => ?_
 obtain ⟨e, he, hr⟩ := h.v.bwd x hx
 simp only [Function.comp_def, vget_str, he, Option.getD_some, hr.size, hr.zone, hr.tag, hr.nodes.sorted, id]
theorem rVolumesLF_id : ∀ (l a : List XVol), Z47 l a = a ++ l
 | [], a => by simp [Z47]
 | o :: r, a => by unfold Z47; rw [rVolumesLF_id r]; simp
theorem rVolumes_id (z : List XZone) (v : List XVol) (s : List XSnap) (q : List XDone) : Z67 z v s q = v := by
 unfold Z67
 rw [rVolumesLF_id, List.nil_append]
theorem Snaps_it (b3 : List (ByteArray × XSn)) : ∀ (l : List ByteArray) (a : List XSnap), Z32 b3 l a = a ++ l.map fun o => ⟨o, ((mget (k := .str) (v := .sn) b3 o).getD default).size, ((mget (k := .str) (v := .sn) b3 o).getD default).tag⟩
 | [], a => by simp [Z32]
 | o :: r, a => by unfold Z32; rw [Snaps_it b3 r]; simp
theorem RS.sorted (h : RS b3 s) : sortB (b3.map Prod.fst) = s.map XSnap.name := by
 refine Rising.ext id (sortB_rising h.nd) ((rising_map _).1 h.rise) fun n => ?_
 rw [sortB_mem, ← aget_isSome, List.mem_map]
 constructor
 · intro hs
   obtain ⟨e, he⟩ := Option.isSome_iff_exists.1 hs
   obtain ⟨x, hx, h1, _⟩ := h.fwd n e he
   exact ⟨x, hx, h1⟩
 · rintro ⟨x, hx, rfl⟩
   rw [h.bwd x hx]; rfl
theorem Snaps_R (h : RR b1 b2 b3 b4 z v s q) : Z3f b1 b2 b3 b4 = s := by
 unfold Z3f
 rw [Snaps_it, h.s.sorted, List.nil_append, List.map_map]
 conv => rhs; rw [← List.map_id s]
 refine List.map_congr_left fun x hx => ?_
 have he := h.s.bwd x hx
 simp only [Function.comp_def, mget_str, he, Option.getD_some, id]
end
theorem sameNodes_self (a : List XVol) (i : Nat) : ∀ (l : List ByteArray) (j : Nat), (∀ k x, l[k]? = some x → ((a.getD i default).nodes).getD (j + k) default = x) → Z29 a i l j = false
 | [], _, _ => rfl
 | o :: r, j, h => by
  unfold Z29
  have h0 := h 0 o rfl
  rw [Nat.add_zero] at h0
  rw [h0, decide_eq_true rfl]
  simp only [Bool.not_true, cond_false]
  exact sameNodes_self a i r (j + 1) fun k x hx => by rw [Nat.add_assoc, Nat.add_comm 1]; exact h (k + 1) x (by simpa using hx)
theorem sameVolsL_self (a : List XVol) : ∀ (l : List XVol) (i : Nat), (∀ k x, l[k]? = some x → a.getD (i + k) default = x) → Z26 a l i = false
 | [], _, _ => rfl
 | o :: r, i, h => by
  unfold Z26
  have h0 := h 0 o rfl
  rw [Nat.add_zero] at h0
  have hn := sameNodes_self a i o.nodes 0 (by intro k x hx; rw [h0, Nat.zero_add, List.getD_eq_getElem?_getD, hx]; rfl)
  rw [hn, h0]
  simp only [decide_true, beq_self_eq_true, Bool.not_true, cond_false]
  exact sameVolsL_self a r (i + 1) fun k x hx => by rw [Nat.add_assoc, Nat.add_comm 1]; exact h (k + 1) x (by simpa using hx)
theorem sameVols_self (a : List XVol) : Z1e a a = true := by
 unfold Z1e
 rw [sameVolsL_self a a 0 (by intro k x hx; rw [Nat.zero_add, List.getD_eq_getElem?_getD, hx]; rfl)]
 simp
theorem sameSnapsL_self (a : List XSnap) : ∀ (l : List XSnap) (i : Nat), (∀ k x, l[k]? = some x → a.getD (i + k) default = x) → Z33 a l i = false
 | [], _, _ => rfl
 | o :: r, i, h => by
  unfold Z33
  have h0 := h 0 o rfl
  rw [Nat.add_zero] at h0
  rw [h0]
  simp only [decide_true, beq_self_eq_true, Bool.and_self, Bool.not_true, cond_false]
  exact sameSnapsL_self a r (i + 1) fun k x hx => by rw [Nat.add_assoc, Nat.add_comm 1]; exact h (k + 1) x (by simpa using hx)
theorem sameSnaps_self (a : List XSnap) : Z34 a a = true := by
 unfold Z34
 rw [sameSnapsL_self a a 0 (by intro k x hx; rw [Nat.zero_add, List.getD_eq_getElem?_getD, hx]; rfl)]
 simp
theorem NewLF_spec : ∀ (l : List XZone) (acc : List (ByteArray × Int)) (pre : List XZone), RZ acc pre → (∀ x ∈ l, Z15 x.name = true ∧ 0 ≤ x.room ∧ x.room ≤ 1125899906842624) → ((pre ++ l).map XZone.name).Nodup → (Z2c l acc).1 = false ∧ RZ (Z2c l acc).2 (pre ++ l)
 | [], acc, pre, h, _, _ => by rw [List.append_nil]; exact ⟨rfl, h⟩
 | o :: r, acc, pre, h, ho, hn => by
  unfold Z2c
  obtain ⟨h1, h2, h3⟩ := ho o List.mem_cons_self
  have hno : ∀ x ∈ pre, x.name ≠ o.name := by
   intro x hx e
   rw [List.map_append, List.nodup_append] at hn
   exact hn.2.2 x.name (List.mem_map.2 ⟨x, hx, rfl⟩) o.name (by simp) e
  simp only [mget_str, mset_str]
  rw [h.none hno, h1, decide_eq_false (by omega : ¬ o.room < 0), decide_eq_false (by omega : ¬ o.room > 1125899906842624)]
  simp only [Option.isSome_none, cond_false, Bool.not_true]
  have e : pre ++ o :: r = (pre ++ [o]) ++ r := by simp
  rw [e] at hn ⊢
  refine NewLF_spec r _ (pre ++ [o]) ⟨nodup_aset h.nd _ _, ?_, fun n f hf => ?_, fun x hx => ?_⟩ (fun x hx => ho x (List.mem_cons_of_mem _ hx)) hn
  · rw [List.map_append] at hn
    exact (List.nodup_append.1 hn).1
  · rw [aget_aset] at hf
    split at hf
    · rename_i h4
      injection hf with hf
      exact ⟨o, by simp, h4, hf.symm⟩
    · obtain ⟨x, hx, q1, q2⟩ := h.fwd n f hf
      exact ⟨x, by simp [hx], q1, q2⟩
  · rcases List.mem_append.1 hx with hx | hx
    · rw [aget_aset, if_neg (Ne.symm (hno x hx))]; exact h.bwd x hx
    · rw [List.mem_singleton.1 hx, aget_aset, if_pos rfl]
theorem RV.empty : RV [] [] := ⟨by simp, by simp [Rising], fun n e h => by simp [aget] at h, fun x hx => by cases hx⟩
theorem RS.empty : RS [] [] := ⟨by simp, by simp [Rising], fun n e h => by simp [aget] at h, fun x hx => by cases hx⟩
theorem RD.empty : RD [] [] := ⟨by simp, by simp, fun n e h => by simp [aget] at h, fun x hx => by cases hx⟩
theorem RZ.empty : RZ [] [] := ⟨by simp, by simp, fun n e h => by simp [aget] at h, fun x hx => by cases hx⟩
theorem RR.new {b1 : List (ByteArray × Int)} {z : List XZone} (h : RZ b1 z) : RR b1 [] [] [] z [] [] [] := ⟨h, RV.empty, RS.empty, RD.empty, (fun x hx => by cases hx), (fun x hx => by cases hx)⟩
end Go.Proofs.Ytpffbkbadnhmmaa
