/- The driver, plainly: what a driver's maps and the document's lists have to do with each other. -/
import Derived.Test.YtkledlcmhbjadaaGreatDPLB
set_option linter.unusedVariables false
set_option linter.unusedSimpArgs false
set_option maxRecDepth 100000
namespace Go.Proofs.YtkledlcmhbjadaaGreat
open Go Go.Eng
def insW (a : BA) : List BA → List BA
 | [] => [a]
 | o :: r => cond (Z46 a o) (a :: o :: r) (cond (decide (a = o)) (o :: r) (o :: insW a r))
theorem Z1b4 (a : BA) : ∀ (l acc : List BA), (∀ x ∈ l, x ≠ a) → Z2a a l true acc = (true, acc ++ l)
 | [], acc, _ => by simp [Z2a]
 | o :: r, acc, h => by
  unfold Z2a
  have h1 := h o mS
  rw [decide_eq_false h1]
  simp only [Bool.not_true, Bool.not_false, cond_false, cond_true]
  rw [Z1b4 a r _ fun x hx => h x (mN hx)]
  simp
theorem withLF_spec (a : BA) : ∀ (l acc : List BA), Z79 id l → cond ((Z2a a l false acc).1) ((Z2a a l false acc).2) ((Z2a a l false acc).2 ++ [a]) = acc ++ insW a l
 | [], acc, _ => by simp [Z2a, insW]
 | o :: r, acc, h => by
  have h' := List.pairwise_cons.1 h
  unfold Z2a insW
  cases h1 : Z46 a o with
  | true =>
   have hne : o ≠ a := fun e => by rw [e, Z1d8] at h1; cases h1
   rw [decide_eq_false hne]
   simp only [Bool.not_false, Bool.true_or, cond_true]
   rw [Z1b4 a r _ fun x hx e => by
    have h2 : Z46 o x = true := h'.1 x hx
    rw [e] at h2
    rw [sl_asymm h1] at h2; cases h2]
   simp
  | false =>
   by_cases hao : a = o
   · subst hao
     rw [decide_eq_true rfl]
     simp only [Bool.not_false, Bool.not_true, Bool.false_or, cond_true, cond_false]
     rw [Z1b4 a r _ fun x hx e => by
      have h2 : Z46 a x = true := h'.1 x hx
      rw [e, Z1d8] at h2; cases h2]
     simp
   · rw [decide_eq_false hao, decide_eq_false (Ne.symm hao)]
     simp only [Bool.not_false, Bool.false_or, cond_true, cond_false]
     rw [withLF_spec a r _ h'.2]
     simp
theorem with_eq (a : BA) (l : List BA) (h : Z79 id l) : Z9a l a = insW a l := by
 have := withLF_spec a l [] h
 rw [List.nil_append] at this
 rw [← this]
 unfold Z9a
 cases (Z2a a l false []).1 <;> rfl
theorem Z18d (a z : BA) : ∀ l : List BA, z ∈ insW a l ↔ z = a ∨ z ∈ l
 | [] => by simp [insW]
 | o :: r => by
  unfold insW
  cases Z46 a o with
  | true => simp
  | false =>
   by_cases h : a = o
   · rw [decide_eq_true h, cond_false, cond_true, h]
     simp
   · rw [decide_eq_false h, cond_false, cond_false, List.mem_cons, Z18d a z r, List.mem_cons]
     constructor
     · rintro (h | h | h)
       · exact .inr (.inl h)
       · exact .inl h
       · exact .inr (.inr h)
     · rintro (h | h | h)
       · exact .inr (.inl h)
       · exact .inl h
       · exact .inr (.inr h)
theorem insW_rising (a : BA) : ∀ l : List BA, Z79 id l → Z79 id (insW a l)
 | [], _ => by unfold insW Z79; simp
 | o :: r, h => by
  have h' := List.pairwise_cons.1 h
  unfold insW
  cases h1 : Z46 a o with
  | true =>
   rw [cond_true]
   refine List.pairwise_cons.2 ⟨fun y hy => ?_, h⟩
   rcases List.mem_cons.1 hy with rfl | hy
   · exact h1
   · exact sl_trans h1 (h'.1 y hy)
  | false =>
   by_cases h2 : a = o
   · rw [decide_eq_true h2]; exact h
   · rw [decide_eq_false h2, cond_false, cond_false]
     refine List.pairwise_cons.2 ⟨fun y hy => ?_, insW_rising a r h'.2⟩
     rcases (Z18d a y r).1 hy with rfl | hy
     · show Z46 o y = true
       cases h3 : Z46 o y with
       | true => rfl
       | false => exact absurd (sl_total h1 h3) h2
     · exact h'.1 y hy
theorem length_insW (a : BA) : ∀ l : List BA, (insW a l).length ≤ l.length + 1
 | [] => by simp [insW]
 | o :: r => by
  unfold insW
  have := length_insW a r
  cases Z46 a o with
  | true => simp
  | false => cases decide (a = o) <;> simp <;> omega
theorem Z10b (a : BA) : ∀ (l acc : List BA), Z4c a l acc = acc ++ l.filter fun x => !decide (x = a)
 | [], acc => by simp [Z4c]
 | o :: r, acc => by
  unfold Z4c
  rw [List.filter_cons]
  cases h : (!decide (o = a)) with
  | true => rw [cond_true, Z10b a r, if_pos rfl]; simp
  | false => rw [cond_false, Z10b a r, if_neg (by simp)]
theorem without_eq (a : BA) (l : List BA) : Z95 l a = l.filter fun x => !decide (x = a) := by
 unfold Z95
 rw [Z10b, List.nil_append]

structure RN (m : List (BA × Bool)) (l : List BA) : Prop where
 nd : (m.map Prod.fst).Nodup
 rise : Z79 id l
 get : ∀ n, aget m n = open Classical in if n ∈ l then some true else none
theorem RN.len {m : List (BA × Bool)} {l : List BA} (h : RN m l) : m.length = l.length := by
 have h2 : ((l.map fun n => (n, ())).map Prod.fst) = l := by simp [Function.comp_def]
 have hl : l.Nodup := by have := h.rise.nodup; simpa using this
 have := Z13c (fs := l.map fun n => (n, ())) h.nd (by rw [h2]; exact hl) fun x => by
  rw [Bool.eq_iff_iff, Z74 (es := l.map fun n => (n, ())), h2, h.get x]
  by_cases hx : x ∈ l
  · simp [hx]
  · simp [hx]
 simpa using this
theorem RN.empty : RN [] [] := ⟨by simp, by simp [Z79], fun n => by simp [aget]⟩
theorem RN.put {m : List (BA × Bool)} {l : List BA} (h : RN m l) (a : BA) : RN (aset m a true) (insW a l) := by
 refine ⟨Zb2 h.nd a true, insW_rising a l h.rise, fun n => ?_⟩
 rw [Z52, h.get]
 by_cases hn : a = n
 · subst hn
   rw [if_pos rfl, if_pos ((Z18d a a l).2 (.inl rfl))]
 · rw [if_neg hn]
   by_cases hm : n ∈ l
   · rw [if_pos hm, if_pos ((Z18d a n l).2 (.inr hm))]
   · rw [if_neg hm, if_neg fun h => ((Z18d a n l).1 h).elim (fun e => hn e.symm) hm]
theorem RN.del {m : List (BA × Bool)} {l : List BA} (h : RN m l) (a : BA) : RN (adel m a) (l.filter fun x => !decide (x = a)) := by
 refine ⟨Z21f h.nd a, h.rise.sub _ List.filter_sublist, fun n => ?_⟩
 rw [Z184 h.nd, h.get]
 by_cases hn : a = n
 · subst hn
   rw [if_pos rfl, if_neg (by simp)]
 · rw [if_neg hn]
   by_cases hm : n ∈ l
   · rw [if_pos hm, if_pos (by simp [hm, Ne.symm hn])]
   · rw [if_neg hm, if_neg (by simp [hm])]
structure RelV (e : XVn) (x : XVol) : Prop where
 size : e.size = x.size
 zone : e.zone = x.zone
 tag : e.tag = x.tag
 nodes : RN e.nodes x.nodes
structure RV (b2 : LB) (v : LV) : Prop where
 nd : (b2.map Prod.fst).Nodup
 rise : Z79 XVol.name v
 fwd : ∀ n e, aget b2 n = some e → ∃ x ∈ v, x.name = n ∧ RelV e x
 bwd : ∀ x ∈ v, ∃ e, aget b2 x.name = some e ∧ RelV e x
theorem RV.none {b2 : LB} {v : LV} (h : RV b2 v) {n : BA} (hn : ∀ x ∈ v, x.name ≠ n) : aget b2 n = none := by
 cases e : aget b2 n with
 | none => rfl
 | some y => obtain ⟨x, hx, h1, _⟩ := h.fwd n y e; exact absurd h1 (hn x hx)
theorem RV.len {b2 : LB} {v : LV} (h : RV b2 v) : b2.length = v.length := by
 have h2 : ((v.map fun x => (x.name, x)).map Prod.fst) = v.map XVol.name := by simp [Function.comp_def]
 have := Z13c (fs := v.map fun x => (x.name, x)) h.nd (by rw [h2]; exact h.rise.nodup) fun n => by
  rw [Bool.eq_iff_iff, Z74 (es := v.map fun x => (x.name, x)), h2, List.mem_map]
  constructor
  · intro hs
    obtain ⟨e, he⟩ := Option.isSome_iff_exists.1 hs
    obtain ⟨x, hx, h1, _⟩ := h.fwd n e he
    exact ⟨x, hx, h1⟩
  · rintro ⟨x, hx, rfl⟩
    obtain ⟨e, he, _⟩ := h.bwd x hx
    rw [he]; rfl
 simpa using this
theorem RV.set {b2 : LB} {v : LV} (h : RV b2 v) {i : Nat} {x : XVol} (hx : v[i]? = some x) {e : XVn} {y : XVol} (hy : y.name = x.name) (hr : RelV e y) : RV (aset b2 x.name e) (v.set i y) := by
 refine ⟨Zb2 h.nd _ _, rising_set _ h.rise hx hy, fun n f hf => ?_, fun z hz => ?_⟩
 · rw [Z52] at hf
   split at hf
   · rename_i hn
     injection hf with hf
     subst hf
     exact ⟨y, (Z67 _ h.rise.nodup hx y).2 (.inl rfl), hy.trans hn, hr⟩
   · rename_i hn
     obtain ⟨z, hz, h1, h2⟩ := h.fwd n f hf
     exact ⟨z, (Z67 _ h.rise.nodup hx z).2 (.inr ⟨hz, by rw [h1]; exact Ne.symm hn⟩), h1, h2⟩
 · rcases (Z67 _ h.rise.nodup hx z).1 hz with rfl | ⟨hz, hne⟩
   · exact ⟨e, by rw [Z52, if_pos hy.symm], hr⟩
   · obtain ⟨f, h1, h2⟩ := h.bwd z hz
     exact ⟨f, by rw [Z52, if_neg (Ne.symm hne)]; exact h1, h2⟩
theorem RV.mod {b2 : LB} {v : LV} (h : RV b2 v) {i : Nat} {x : XVol} (hx : v[i]? = some x) (f : XVn → XVn) {y : XVol} (hy : y.name = x.name) (hr : ∀ e, RelV e x → RelV (f e) y) : RV (amod b2 x.name f) (v.set i y) := by
 refine ⟨by rw [keys_amod]; exact h.nd, rising_set _ h.rise hx hy, fun n g hg => ?_, fun z hz => ?_⟩
 · rw [aget_amod] at hg
   split at hg
   · rename_i hn
     obtain ⟨e, he, rfl⟩ := Option.map_eq_some_iff.1 hg
     obtain ⟨z, hz, h1, h2⟩ := h.fwd n e he
     have : z = x := rising_uniq _ h.rise hz (List.mem_of_getElem? hx) (h1.trans hn.symm)
     subst this
     exact ⟨y, (Z67 _ h.rise.nodup hx y).2 (.inl rfl), hy.trans hn, hr e h2⟩
   · rename_i hn
     obtain ⟨z, hz, h1, h2⟩ := h.fwd n g hg
     exact ⟨z, (Z67 _ h.rise.nodup hx z).2 (.inr ⟨hz, by rw [h1]; exact Ne.symm hn⟩), h1, h2⟩
 · rcases (Z67 _ h.rise.nodup hx z).1 hz with rfl | ⟨hz, hne⟩
   · obtain ⟨e, h1, h2⟩ := h.bwd x (List.mem_of_getElem? hx)
     exact ⟨f e, by rw [aget_amod, hy, if_pos rfl, h1]; rfl, hr e h2⟩
   · obtain ⟨g, h1, h2⟩ := h.bwd z hz
     exact ⟨g, by rw [aget_amod, if_neg (Ne.symm hne)]; exact h1, h2⟩
theorem RV.ins {b2 : LB} {v : LV} (h : RV b2 v) {e : XVn} {y : XVol} (hn : ∀ x ∈ v, x.name ≠ y.name) (hr : RelV e y) : RV (aset b2 y.name e) (insR XVol.name y v) := by
 refine ⟨Zb2 h.nd _ _, Z1c5 _ y v h.rise hn, fun n f hf => ?_, fun z hz => ?_⟩
 · rw [Z52] at hf
   split at hf
   · rename_i hnn
     injection hf with hf
     subst hf
     exact ⟨y, (Zab _ y y v).2 (.inl rfl), hnn, hr⟩
   · obtain ⟨z, hz, h1, h2⟩ := h.fwd n f hf
     exact ⟨z, (Zab _ y z v).2 (.inr hz), h1, h2⟩
 · rcases (Zab _ y z v).1 hz with rfl | hz
   · exact ⟨e, by rw [Z52, if_pos rfl], hr⟩
   · obtain ⟨f, h1, h2⟩ := h.bwd z hz
     exact ⟨f, by rw [Z52, if_neg (Ne.symm (hn z hz))]; exact h1, h2⟩
theorem RV.del {b2 : LB} {v : LV} (h : RV b2 v) {i : Nat} {x : XVol} (hx : v[i]? = some x) : RV (adel b2 x.name) (v.take i ++ v.drop (i + 1)) := by
 refine ⟨Z21f h.nd _, h.rise.sub _ (cut_sub v i), fun n f hf => ?_, fun z hz => ?_⟩
 · rw [Z184 h.nd] at hf
   split at hf
   · cases hf
   · rename_i hn
     obtain ⟨z, hz, h1, h2⟩ := h.fwd n f hf
     exact ⟨z, (Zc8 _ h.rise.nodup hx z).2 ⟨hz, by rw [h1]; exact Ne.symm hn⟩, h1, h2⟩
 · obtain ⟨hz, hne⟩ := (Zc8 _ h.rise.nodup hx z).1 hz
   obtain ⟨f, h1, h2⟩ := h.bwd z hz
   exact ⟨f, by rw [Z184 h.nd, if_neg (Ne.symm hne)]; exact h1, h2⟩
structure RZ (b1 : LA) (z : LZ) : Prop where
 nd : (b1.map Prod.fst).Nodup
 nz : (z.map XZone.name).Nodup
 fwd : ∀ n r, aget b1 n = some r → ∃ x ∈ z, x.name = n ∧ r = x.room
 bwd : ∀ x ∈ z, aget b1 x.name = some x.room
theorem RZ.none {b1 : LA} {z : LZ} (h : RZ b1 z) {n : BA} (hn : ∀ x ∈ z, x.name ≠ n) : aget b1 n = none := by
 cases e : aget b1 n with
 | none => rfl
 | some y => obtain ⟨x, hx, h1, _⟩ := h.fwd n y e; exact absurd h1 (hn x hx)
theorem RZ.set {b1 : LA} {z : LZ} (h : RZ b1 z) {i : Nat} {x : XZone} (hx : z[i]? = some x) {y : XZone} (hy : y.name = x.name) : RZ (aset b1 x.name y.room) (z.set i y) := by
 refine ⟨Zb2 h.nd _ _, by rw [Z16d _ hx hy]; exact h.nz, fun n f hf => ?_, fun w hw => ?_⟩
 · rw [Z52] at hf
   split at hf
   · rename_i hn
     injection hf with hf
     exact ⟨y, (Z67 _ h.nz hx y).2 (.inl rfl), hy.trans hn, hf.symm⟩
   · rename_i hn
     obtain ⟨w, hw, h1, h2⟩ := h.fwd n f hf
     exact ⟨w, (Z67 _ h.nz hx w).2 (.inr ⟨hw, by rw [h1]; exact Ne.symm hn⟩), h1, h2⟩
 · rcases (Z67 _ h.nz hx w).1 hw with rfl | ⟨hw, hne⟩
   · rw [Z52, if_pos hy.symm]
   · rw [Z52, if_neg (Ne.symm hne)]; exact h.bwd w hw
structure RS (b3 : LC) (s : LS) : Prop where
 nd : (b3.map Prod.fst).Nodup
 rise : Z79 XSnap.name s
 fwd : ∀ n e, aget b3 n = some e → ∃ x ∈ s, x.name = n ∧ e = ⟨x.size, x.tag⟩
 bwd : ∀ x ∈ s, aget b3 x.name = some ⟨x.size, x.tag⟩
theorem RS.none {b3 : LC} {s : LS} (h : RS b3 s) {n : BA} (hn : ∀ x ∈ s, x.name ≠ n) : aget b3 n = none := by
 cases e : aget b3 n with
 | none => rfl
 | some y => obtain ⟨x, hx, h1, _⟩ := h.fwd n y e; exact absurd h1 (hn x hx)
theorem RS.len {b3 : LC} {s : LS} (h : RS b3 s) : b3.length = s.length := by
 have h2 : ((s.map fun x => (x.name, x)).map Prod.fst) = s.map XSnap.name := by simp [Function.comp_def]
 have := Z13c (fs := s.map fun x => (x.name, x)) h.nd (by rw [h2]; exact h.rise.nodup) fun n => by
  rw [Bool.eq_iff_iff, Z74 (es := s.map fun x => (x.name, x)), h2, List.mem_map]
  constructor
  · intro hs
    obtain ⟨e, he⟩ := Option.isSome_iff_exists.1 hs
    obtain ⟨x, hx, h1, _⟩ := h.fwd n e he
    exact ⟨x, hx, h1⟩
  · rintro ⟨x, hx, rfl⟩
    rw [h.bwd x hx]; rfl
 simpa using this
theorem RS.ins {b3 : LC} {s : LS} (h : RS b3 s) {y : XSnap} (hn : ∀ x ∈ s, x.name ≠ y.name) : RS (aset b3 y.name ⟨y.size, y.tag⟩) (insR XSnap.name y s) := by
 refine ⟨Zb2 h.nd _ _, Z1c5 _ y s h.rise hn, fun n f hf => ?_, fun z hz => ?_⟩
 · rw [Z52] at hf
   split at hf
   · rename_i hnn
     injection hf with hf
     exact ⟨y, (Zab _ y y s).2 (.inl rfl), hnn, hf.symm⟩
   · obtain ⟨z, hz, h1, h2⟩ := h.fwd n f hf
     exact ⟨z, (Zab _ y z s).2 (.inr hz), h1, h2⟩
 · rcases (Zab _ y z s).1 hz with rfl | hz
   · rw [Z52, if_pos rfl]
   · rw [Z52, if_neg (Ne.symm (hn z hz))]; exact h.bwd z hz
theorem RS.del {b3 : LC} {s : LS} (h : RS b3 s) {i : Nat} {x : XSnap} (hx : s[i]? = some x) : RS (adel b3 x.name) (s.take i ++ s.drop (i + 1)) := by
 refine ⟨Z21f h.nd _, h.rise.sub _ (cut_sub s i), fun n f hf => ?_, fun z hz => ?_⟩
 · rw [Z184 h.nd] at hf
   split at hf
   · cases hf
   · rename_i hn
     obtain ⟨z, hz, h1, h2⟩ := h.fwd n f hf
     exact ⟨z, (Zc8 _ h.rise.nodup hx z).2 ⟨hz, by rw [h1]; exact Ne.symm hn⟩, h1, h2⟩
 · obtain ⟨hz, hne⟩ := (Zc8 _ h.rise.nodup hx z).1 hz
   rw [Z184 h.nd, if_neg (Ne.symm hne)]
   exact h.bwd z hz
structure RD (b4 : LD) (q : LQ) : Prop where
 nd : (b4.map Prod.fst).Nodup
 nq : (q.map fun d => Z7f d.c).Nodup
 fwd : ∀ t d, aget b4 t = some d → d ∈ q ∧ Z7f d.c = t
 bwd : ∀ d ∈ q, aget b4 (Z7f d.c) = some d
theorem RD.none {b4 : LD} {q : LQ} (h : RD b4 q) {t : XTgt} (hn : ∀ x ∈ q, Z7f x.c ≠ t) : aget b4 t = none := by
 cases e : aget b4 t with
 | none => rfl
 | some y => obtain ⟨h1, h2⟩ := h.fwd t y e; exact absurd h2 (hn y h1)
theorem RD.len {b4 : LD} {q : LQ} (h : RD b4 q) : b4.length = q.length := by
 have h2 : ((q.map fun x => (Z7f x.c, x)).map Prod.fst) = q.map fun x => Z7f x.c := by simp [Function.comp_def]
 have := Z13c (fs := q.map fun x => (Z7f x.c, x)) h.nd (by rw [h2]; exact h.nq) fun n => by
  rw [Bool.eq_iff_iff, Z74 (es := q.map fun x => (Z7f x.c, x)), h2, List.mem_map]
  constructor
  · intro hs
    obtain ⟨e, he⟩ := Option.isSome_iff_exists.1 hs
    obtain ⟨h1, h2⟩ := h.fwd n e he
    exact ⟨e, h1, h2⟩
  · rintro ⟨x, hx, rfl⟩
    rw [h.bwd x hx]; rfl
 simpa using this
theorem RD.app {b4 : LD} {q : LQ} (h : RD b4 q) {d : XDone} (hn : ∀ x ∈ q, Z7f x.c ≠ Z7f d.c) : RD (aset b4 (Z7f d.c) d) (q ++ [d]) := by
 refine ⟨Zb2 h.nd _ _, ?_, fun t f hf => ?_, fun x hx => ?_⟩
 · rw [List.map_append, List.nodup_append]
   refine ⟨h.nq, by simp, fun a ha b hb => ?_⟩
   obtain ⟨x, hx, rfl⟩ := List.mem_map.1 ha
   simp only [List.map_cons, List.map_nil, List.mem_singleton] at hb
   rw [hb]; exact hn x hx
 · rw [Z52] at hf
   split at hf
   · rename_i ht
     injection hf with hf
     subst hf
     exact ⟨by simp, ht⟩
   · obtain ⟨h1, h2⟩ := h.fwd t f hf
     exact ⟨by simp [h1], h2⟩
 · rcases List.mem_append.1 hx with hx | hx
   · rw [Z52, if_neg (Ne.symm (hn x hx))]; exact h.bwd x hx
   · rw [List.mem_singleton.1 hx, Z52, if_pos rfl]
theorem RD.repl {b4 : LD} {q : LQ} (h : RD b4 q) {i : Nat} {x d : XDone} (hx : q[i]? = some x) (ht : Z7f d.c = Z7f x.c) : RD (aset b4 (Z7f d.c) d) ((q.take i ++ q.drop (i + 1)) ++ [d]) := by
 have hm := Zc8 (fun d : XDone => Z7f d.c) h.nq hx
 refine ⟨Zb2 h.nd _ _, ?_, fun t f hf => ?_, fun y hy => ?_⟩
 · rw [List.map_append, List.nodup_append]
   refine ⟨((cut_sub q i).map _).nodup h.nq, by simp, fun a ha b hb => ?_⟩
   obtain ⟨y, hy, rfl⟩ := List.mem_map.1 ha
   simp only [List.map_cons, List.map_nil, List.mem_singleton] at hb
   rw [hb, ht]; exact ((hm y).1 hy).2
 · rw [Z52] at hf
   split at hf
   · rename_i h2
     injection hf with hf
     subst hf
     exact ⟨by simp, h2⟩
   · rename_i hne
     obtain ⟨h1, h2⟩ := h.fwd t f hf
     refine ⟨List.mem_append_left _ ((hm f).2 ⟨h1, ?_⟩), h2⟩
     rw [h2, ← ht]; exact Ne.symm hne
 · rcases List.mem_append.1 hy with hy | hy
   · obtain ⟨h1, h2⟩ := (hm y).1 hy
     rw [Z52, if_neg (by rw [ht]; exact Ne.symm h2)]
     exact h.bwd y h1
   · rw [List.mem_singleton.1 hy, Z52, if_pos rfl]
end Go.Proofs.YtkledlcmhbjadaaGreat
