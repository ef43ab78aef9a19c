/- The engine, part 7b: append. -/
import Derived.Test.YtnfmnipckcidlaaDoorE7
set_option linter.unusedVariables false
set_option linter.unusedSimpArgs false
namespace Go.Eng
open Go.RowKit (Below)

section
variable {P : Program} {B : Nat → Prop} {w0 w : World} {M0 M : Mem} {h hr : List AObj} {ρ : Loc}
theorem nextslicecap_le {n c : Nat} (h : c < n) : Builtin.nextslicecap n c ≤ 2 * n := by
  unfold Builtin.nextslicecap
  split
  · omega
  · split
    · omega
    · have key : ∀ (r c : Nat), 256 ≤ c → c < n → Builtin.growBy n r c ≤ 2 * n := by
        intro r
        induction r with
        | zero => intro c _ hc; simp only [Builtin.growBy]; omega
        | succ r ih =>
          intro c h1 hc
          simp only [Builtin.growBy]
          rw [if_neg (by omega)]
          by_cases h2 : c + (c + 768) / 4 < n
          · exact ih _ (by omega) h2
          · cases r with
            | zero => simp only [Builtin.growBy]; omega
            | succ r => simp only [Builtin.growBy]; rw [if_pos (by omega)]; omega
      exact key 4 c (by omega) h
/-- A header and what lies behind it. -/
structure Hdr (ρ : Loc) (M : Mem) (w : World) (id : Option Nat) (f : Bool) (c : Coll) (v : Value) : Prop where
  ok : (v = .slice none 0 0 ∧ c.len = 0) ∨ ∃ r cap vs t i, id = some i ∧ v = .slice (some ⟨r, 0, none⟩) c.len cap ∧ ρ.own r = some i ∧ w.heap[r]? = some (.cells ⟨vs⟩ t (0, 0)) ∧
    vs.length = cap * c.esz ∧ c.len ≤ cap ∧ cap ≤ maxLen ∧ elems M c vs ∧ (∀ off, (f = false ∨ c.len * c.esz ≤ off) → M r off = none) ∧ (f = true → ∀ off u, off < c.len * c.esz → vs[off]? = some u → M r off = some u)
theorem base_hdr (H : SimH B w0 M0 h w ρ M) (hle : ∀ id, hget hr id ≠ .dead → hget h id = hget hr id) {k : Kind} {m f : Bool} {x : AV} {b : Option Nat} {c : Coll} {v : Value} (hb : baseOf hr k m x = some (b, f, c)) (hv : rep ρ M noG x v) :
    Hdr ρ M w b f c v ∧ ∀ i, b = some i → hget h i = .vec f c := by
  unfold baseOf at hb
  split at hb
  · simp only [Option.some.injEq, Prod.mk.injEq] at hb
    obtain ⟨rfl, rfl, rfl⟩ := hb
    simp only [rep] at hv
    exact ⟨⟨.inl ⟨hv, rfl⟩⟩, fun i h => by cases h⟩
  · rename_i id
    split at hb
    · rename_i f' c' hc
      simp only [Option.some.injEq, Prod.mk.injEq] at hb
      obtain ⟨rfl, rfl, rfl⟩ := hb
      have ho := hle id (by rw [hc]; simp)
      rw [hc] at ho
      have hobj := H.obj id
      rw [ho] at hobj
      obtain ⟨hh, g1, g2⟩ := hobj
      simp only [rep] at hv
      have hv := hv.2
      rw [g1] at hv
      injection hv with hv
      injection hv with hv
      subst hv
      refine ⟨⟨?_⟩, fun i hi => by injection hi with hi; subst hi; exact ho⟩
      rcases g2 with g2 | ⟨r, cap, vs, t, g2⟩
      · exact .inl g2
      · exact .inr ⟨r, cap, vs, t, id, rfl, g2⟩
    · cases hb
  · cases hb
/-- The base of an append is let go of. -/
theorem applyEff_dead (H : SimH B w0 M0 h w ρ M) (b : Option Nat) : SimH B w0 M0 (applyEff h (deadOf b)) w ρ M := by
  cases b with
  | none => exact H
  | some i => exact H.kill i
theorem hget_dead {b : Option Nat} {i : Nat} (hb : b = some i) : hget (applyEff h (deadOf b)) i = .dead := by
  subst hb
  simp only [deadOf, applyEff, List.foldl_cons, List.foldl_nil]
  rw [hget_hset, if_pos rfl]

theorem run_append_vec (H : SimH B w0 M0 h w ρ M) {t tx ty e e' : TypeId} {i : TypeInfo} {z : Value} (ht : P.underlying t = some (.slice e)) (htx : P.underlying tx = some (.slice e')) (hi : P.info? e = some i) (hz : i.zero = some z)
    {c d c' : Coll} (hc : c.append d = some c') (hsz : i.size = c.esz) (hzs : z.cells.size = c.esz) {b : Option Nat} {f : Bool} {v u : Value} (hh : Hdr ρ M w b f c v)
    (hs : ∃ a cap, u = .slice a d.len cap ∧ (0 < d.len → ∃ b o, a = some ⟨b, o, none⟩ ∧ readsW w M d b o))
    (hby : (c.len + d.len) * i.bytes ≤ bytesLim) (hml : c.len + d.len ≤ maxLen) (nid : Nat) (hid : ρ nid = none) :
    ∃ v' w' ρ' M', (Builtin.append_ #[t, tx] ty #[v, u]).run P w = .ok v' w' ∧ ρ.only ρ' (deadOf b ++ [(nid, .vec f c')]) ∧ M.le M' ∧ SimH B w0 M0 (applyEff h (deadOf b ++ [(nid, .vec f c')])) w' ρ' M' ∧ rep ρ' M' noG (.vec nid) v' := by
  have hlim : bytesLim = 140737488355328 := rfl
  have hmx : maxLen = 9223372036854775807 := by decide
  obtain ⟨news, hsrc, hnews, hnl⟩ := src_of (P := P) htx hs
  have hde : d.esz = c.esz := by
    have := (elems_append (M := M) (vs := []) (us := news) hc) 
    unfold Coll.append at hc
    split at hc
    · rename_i hk; simp [Coll.esz, hk]
    · cases hc
  rw [hde] at hsrc hnl
  have hsrc' : Src P i.size tx u d.len news w := by rw [hsz]; exact hsrc
  have Hd := applyEff_dead H b
  have happ : applyEff h (deadOf b ++ [(nid, .vec f c')]) = hset (applyEff h (deadOf b)) nid (.vec f c') := by simp [applyEff]
  rw [happ]
  have hmem : (nid, AObj.vec f c') ∈ deadOf b ++ [(nid, .vec f c')] := by simp
  have hlenc : c'.len = c.len + d.len ∧ c'.k = c.k := by
    unfold Coll.append at hc
    split at hc
    · injection hc with hc; subst hc
      rename_i hk
      refine ⟨?_, rfl⟩
      obtain ⟨k, xs⟩ := c; obtain ⟨k', ys⟩ := d
      simp only at hk; subst hk
      simp [Coll.len]
    · cases hc
  have hesz : c'.esz = c.esz := by simp [Coll.esz, hlenc.2]
  -- a new block
  have grow : ∀ (base : Option Addr) (cap : Nat) (olds : List Value), v = .slice base c.len cap → cap < c.len + d.len → olds.length = c.len * c.esz → elems M c olds →
      (Builtin.firstCells i.size c.len (.slice base c.len cap)).run P w.drew = .ok olds.toArray w.drew →
      ∃ v' w' ρ' M', (Builtin.append_ #[t, tx] ty #[v, u]).run P w = .ok v' w' ∧ ρ.only ρ' (deadOf b ++ [(nid, .vec f c')]) ∧ M.le M' ∧ SimH B w0 M0 (hset (applyEff h (deadOf b)) nid (.vec f c')) w' ρ' M' ∧ rep ρ' M' noG (.vec nid) v' := by
    intro base cap olds hv hcap hol hoe hfc
    subst hv
    have hfit : Builtin.nextslicecap (c.len + d.len) cap * i.bytes ≤ 281474976710656 := by
      have h1 := nextslicecap_le hcap
      have h2 : Builtin.nextslicecap (c.len + d.len) cap * i.bytes ≤ 2 * (c.len + d.len) * i.bytes := Nat.mul_le_mul_right _ h1
      rw [Nat.mul_assoc] at h2
      omega
    have hrun := run_append_grow_src (P := P) w t tx ty e i z ht hi hz base c.len cap olds hfc u d.len news hsrc' hcap (by omega) hfit
    have hge := grownCap_ge w (c.len + d.len) cap e
    have hgm := grownCap_le_maxLen w (c.len + d.len) cap e hml
    generalize grownCap w (c.len + d.len) cap e = nc at hrun hge hgm
    obtain ⟨hea, _, _, _⟩ := elems_append hc hol hoe hnews
    have Hw := Hd.drew
    generalize hvs : ((olds ++ news).toArray ++ Builtin.zeroCells z.cells (nc - (c.len + d.len))).toList = vs at *
    have hcells : (olds ++ news).toArray ++ Builtin.zeroCells z.cells (nc - (c.len + d.len)) = ⟨vs⟩ := by rw [← hvs]
    rw [hcells] at hrun
    have hvl : vs.length = nc * c.esz := by
      rw [← hvs]
      simp only [Array.toList_append, List.length_append, Array.length_toList, size_zeroCells, hzs, hol, hnl, ← Nat.add_mul]
      congr 1; omega
    have hpre : ∀ m, m < c'.len * c'.esz → vs[m]? = (olds ++ news)[m]? := by
      intro m hm
      rw [← hvs, Array.toList_append, List.getElem?_append_left]
      rw [hlenc.1, hesz, Nat.add_mul] at hm
      simp [hol, hnl]; omega
    have hev := elems_take hea hpre
    have hfr : ∀ off, M w.heap.size off = none := fun off => Mem.none_new H (Nat.le_refl _) off
    have hnB : ¬ B w.heap.size := fun hb => Nat.lt_irrefl _ (H.size _ hb)
    have hnew : (w.drew.alloc (.cells ⟨vs⟩ e)).heap[w.heap.size]? = some (.cells ⟨vs⟩ e (0, 0)) := heap_alloc_new w.drew _
    obtain ⟨M', hM', hMl, hMo, hMi⟩ : ∃ M', M' = (if f then M.told w.heap.size (c'.len * c'.esz) vs else M) ∧ M.le M' ∧ (∀ b o, b ≠ w.heap.size → M' b o = M b o) ∧ (∀ o v, M' w.heap.size o = some v → vs[o]? = some v ∧ f = true ∧ o < c'.len * c'.esz) := by
      refine ⟨_, rfl, ?_, ?_, ?_⟩
      · split
        · exact Mem.told_le fun o v _ hv => by rw [hfr o] at hv; cases hv
        · exact Mem.le_refl _
      · intro b o hb; split
        · unfold Mem.told; rw [if_neg (fun hc => hb hc.1)]
        · rfl
      · intro o v hv; split at hv
        · rename_i hf
          unfold Mem.told at hv
          split at hv
          · rename_i hc; exact ⟨hv, hf, hc.2⟩
          · rw [hfr o] at hv; cases hv
        · rw [hfr o] at hv; cases hv
    refine ⟨_, _, ρ.put nid (.hdr (.slice (some ⟨w.heap.size, 0, none⟩) (c.len + d.len) nc)) w.heap.size, M', hrun, Loc.only_put hid _ _ hmem, hMl, ?_, ?_⟩
    · refine Hd.take nid hid _ _ w.heap.size (fun i hi => absurd (Hd.own _ _ hi).2 (Nat.lt_irrefl _)) hnB (by simp) (fun k _ hk => Below.heap_alloc w.drew _ k hk) ((Keeps.refl _ _).drew.alloc H.size _) hMl hMo ?_ ?_
      · intro o v hv; rw [cell_of_block hnew]; exact (hMi o v hv).1
      · refine ⟨.slice (some ⟨w.heap.size, 0, none⟩) (c.len + d.len) nc, by simp [Loc.put], .inr ⟨w.heap.size, nc, vs, e, by rw [hlenc.1], by simp [Loc.put], hnew, by rw [hesz]; exact hvl, by rw [hlenc.1]; exact hge, hgm, elems_mono hMl hev, ?_, ?_⟩⟩
        · intro off ho
          cases hm : M' w.heap.size off with
          | none => rfl
          | some v =>
            obtain ⟨_, h2, h3⟩ := hMi off v hm
            rcases ho with ho | ho
            · rw [h2] at ho; cases ho
            · omega
        · intro hf off u' ho hu'
          rw [hM', if_pos hf]
          unfold Mem.told
          rw [if_pos ⟨rfl, ho⟩]
          exact hu'
    · simp only [rep]
      exact ⟨⟨_, _, _, rfl⟩, by simp [Loc.put]⟩
  rcases hh.ok with ⟨rfl, h0⟩ | ⟨r, cap, vs, ct, ib, hib, rfl, k2, k3, k4, k5, k6, k7, k8, k9⟩
  · rcases Nat.eq_zero_or_pos d.len with hd0 | hdp
    · -- nothing is put to nothing
      refine ⟨.slice none 0 0, w, ρ.put0 nid (.hdr (.slice none 0 0)), M, ?_, Loc.only_put0 hid _ _ hmem, Mem.le_refl _, ?_, ?_⟩
      · obtain ⟨a, cp, rfl, _⟩ := hs
        rw [hd0] at hsrc'
        rw [hd0]
        have := hsrc'.cells
        have hn0 : news = [] := List.eq_nil_of_length_eq_zero (by rw [hnl, hd0]; simp)
        simp [Builtin.append_, run_underlying ht, run_underlying htx, sizeOf, typeInfo, hi, Builtin.lenOf, this]
      · exact Hd.update nid _ (fun i hi => by simp [Loc.put0, hi]) (Loc.le_put0 hid) (Mem.le_refl _) ⟨.slice none 0 0, by simp [Loc.put0], .inl ⟨rfl, by rw [hlenc.1]; omega⟩⟩ (fun i r _ _ hr => ⟨hr, rfl, fun _ h => h⟩) (fun r i hr => Hd.own r i hr) Hd.mem (fun _ _ _ => rfl) (Keeps.refl _ _)
      · simp only [rep]
        exact ⟨⟨_, _, _, rfl⟩, by simp [Loc.put0]⟩
    · have hce : elems M c [] := fun i hi => by omega
      exact grow none 0 [] (by rw [h0]) (by omega) (by rw [h0]; simp) hce (by rw [h0]; exact run_firstCells_none _ _ _ _ _)
  · by_cases hroom : c.len + d.len ≤ cap
    · -- there is room
      have hrl := (Array.getElem?_eq_some_iff.1 k3).1
      have hnB : ¬ B r := (H.own _ _ k2).1
      have hfit : c.len * c.esz + news.length ≤ vs.length := by rw [hnl, k4, ← Nat.add_mul]; exact Nat.mul_le_mul_right _ hroom
      have hst := run_storeCells (P := P) (r := r) (o := c.len * c.esz) news vs 0 w k3 (by simpa using hfit) hsrc'.one
      have hrun : (Builtin.append_ #[t, tx] ty #[.slice (some ⟨r, 0, none⟩) c.len cap, u]).run P w = .ok (.slice (some ⟨r, 0, none⟩) (c.len + d.len) cap) (putCells w r (spliceV vs (c.len * c.esz) news) ct) := by
        obtain ⟨a, cp, rfl, _⟩ := hs
        have hsc := hsrc'.cells
        rw [hsz] at hsc
        simp only [Nat.add_zero] at hst
        simp [Builtin.append_, run_underlying ht, run_underlying htx, sizeOf, typeInfo, hi, Builtin.lenOf, hroom, hsz, hsc, Addr.add_lit, hst]
      have hsv : ∀ m, (spliceV vs (c.len * c.esz) news)[m]? = if c.len * c.esz ≤ m ∧ m < c.len * c.esz + news.length then news[m - c.len * c.esz]? else vs[m]? := fun m => spliceV_get _ _ _ m hfit
      have hvl := spliceV_length (c.len * c.esz) vs news hfit
      generalize spliceV vs (c.len * c.esz) news = us at *
      have hnew : (putCells w r us ct).heap[r]? = some (.cells ⟨us⟩ ct (0, 0)) := putCells_at hrl
      obtain ⟨hea, _, _, _⟩ := elems_append (vs := vs.take (c.len * c.esz)) hc (by rw [List.length_take, k4, Nat.min_eq_left (Nat.mul_le_mul_right _ k5)]) (elems_take k7 fun m hm => by rw [List.getElem?_take, if_pos hm]) hnews
      have htl : (vs.take (c.len * c.esz)).length = c.len * c.esz := by rw [List.length_take, k4, Nat.min_eq_left (Nat.mul_le_mul_right _ k5)]
      have hpre : ∀ m, m < c'.len * c'.esz → us[m]? = (vs.take (c.len * c.esz) ++ news)[m]? := by
        intro m hm
        rw [hlenc.1, hesz, Nat.add_mul, ← hnl] at hm
        rw [hsv m]
        by_cases hlo : c.len * c.esz ≤ m
        · rw [if_pos ⟨hlo, hm⟩, List.getElem?_append_right (by omega), htl]
        · rw [if_neg (by omega), List.getElem?_append_left (by omega), List.getElem?_take, if_pos (by omega)]
      have hev := elems_take hea hpre
      have hNl : c'.len * c'.esz = c.len * c.esz + news.length := by rw [hlenc.1, hesz, Nat.add_mul, hnl]
      obtain ⟨M', hM', hMl, hMo, hMi⟩ : ∃ M', M' = (if f then M.told r (c'.len * c'.esz) us else M) ∧ M.le M' ∧ (∀ b o, b ≠ r → M' b o = M b o) ∧ (∀ o v, M' r o = some v → us[o]? = some v ∧ f = true ∧ o < c'.len * c'.esz) := by
        refine ⟨_, rfl, ?_, ?_, ?_⟩
        · split
          · rename_i hf
            refine Mem.told_le fun o v _ hv => ?_
            have hlt : o < c.len * c.esz := by
              rcases Nat.lt_or_ge o (c.len * c.esz) with h | h
              · exact h
              · rw [k8 o (.inr h)] at hv; cases hv
            rw [hsv o, if_neg (by omega)]
            have := H.mem _ _ _ hv
            rw [cell_of_block k3] at this
            exact this
          · exact Mem.le_refl _
        · intro b o hb; split
          · unfold Mem.told; rw [if_neg (fun hc => hb hc.1)]
          · rfl
        · intro o v hv; split at hv
          · rename_i hf
            unfold Mem.told at hv
            split at hv
            · rename_i hc; exact ⟨hv, hf, hc.2⟩
            · rename_i hc
              rw [k8 o (.inr (by have : ¬ o < c'.len * c'.esz := fun hl => hc ⟨rfl, hl⟩; omega))] at hv; cases hv
          · rename_i hf
            rw [k8 o (.inl (by simpa using hf))] at hv; cases hv
      refine ⟨_, _, ρ.put nid (.hdr (.slice (some ⟨r, 0, none⟩) (c.len + d.len) cap)) r, M', hrun, Loc.only_put hid _ _ hmem, hMl, ?_, ?_⟩
      · refine Hd.take nid hid _ _ r (fun i hi => by
          rw [k2] at hi
          injection hi with hi
          subst hi
          exact hget_dead hib) hnB (by rw [putCells_size]; exact hrl) (fun k hk _ => putCells_ne hk) (putCells_below hnB) hMl hMo ?_ ?_
        · intro o v hv; rw [cell_of_block hnew]; exact (hMi o v hv).1
        · refine ⟨.slice (some ⟨r, 0, none⟩) (c.len + d.len) cap, by simp [Loc.put], .inr ⟨r, cap, us, ct, by rw [hlenc.1], by simp [Loc.put], hnew, by rw [hesz, hvl]; exact k4, by rw [hlenc.1]; exact hroom, k6, elems_mono hMl hev, ?_, ?_⟩⟩
          · intro off ho
            cases hm : M' r off with
            | none => rfl
            | some v =>
              obtain ⟨_, h2, h3⟩ := hMi off v hm
              rcases ho with ho | ho
              · rw [h2] at ho; cases ho
              · omega
          · intro hf off u' ho hu'
            rw [hM', if_pos hf]
            unfold Mem.told
            rw [if_pos ⟨rfl, ho⟩]
            exact hu'
      · simp only [rep]
        exact ⟨⟨_, _, _, rfl⟩, by simp [Loc.put]⟩
    · have htl : (vs.take (c.len * c.esz)).length = c.len * c.esz := by rw [List.length_take, k4, Nat.min_eq_left (Nat.mul_le_mul_right _ k5)]
      exact grow (some ⟨r, 0, none⟩) cap (vs.take (c.len * c.esz)) rfl (by omega) htl (elems_take k7 fun m hm => by rw [List.getElem?_take, if_pos hm])
        (run_firstCells_some _ i.size c.len ⟨r, 0, none⟩ c.len cap _ (by rw [htl, hsz]) (fun j u' hj => by
          have hlt : j < c.len * c.esz := by have := (List.getElem?_eq_some_iff.1 hj).1; omega
          rw [Addr.add_lit, World.cell?_drew, cell_of_block k3, Nat.zero_add]
          rw [List.getElem?_take, if_pos hlt] at hj
          exact hj))
end
end Go.Eng
