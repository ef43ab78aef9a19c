/- The driver: by hand: what is known of functions that box their argument; of the sorted keys of a map. -/
import Derived.Test.YtkledlcmhbjadaaGreatDoorDKeys
import Derived.Test.YtkledlcmhbjadaaGreatDoorEE
set_option linter.unusedVariables false
set_option linter.unusedSimpArgs false
set_option maxRecDepth 100000
namespace Go.Eng
open Go.RowKit (Below)
variable {P : Program} {B : Nat → Prop} {w0 w w' : World} {M0 M : Mem} {h : List AObj} {ρ : Loc}

noncomputable def factBox {P : Program} (f g : FuncId) (t : TypeId) (ent : ∀ (vs : Array Value) (w : World), (callFunc f vs).run P w = .ok (.enter f vs) w)
  (hc : ∀ (v : Value) (w : World), v.oneCell' = true → v.cells = #[v] → Calls P f #[v] w fun e w' => e = .returned (.func (.func g) #[] #[.pointer (some ⟨w.heap.size, 0, none⟩)]) ∧ w' = w.alloc (.cells #[v] t)) : Fact P where
 f := f
 K := fun args _ nid => match args with
  | [x] => if x.one then some (.fn g [.ptr nid 0], [(nid, .cells t [x])], []) else none
  | _ => none
 ent := ent
 ok := fun args h nid x effs need hk _ => by
  split at hk
  case h_2 => cases hk
  rename_i y
  split at hk
  case isFalse => cases hk
  rename_i hone
  simp only [Option.some.injEq, Prod.mk.injEq] at hk
  obtain ⟨rfl, rfl, rfl⟩ := hk
  intro B w0 M0 hh w ρ M vs H _ hfr hargs
  match vs, hargs with
  | [v], hargs =>
   simp only [repL, and_true] at hargs
   have hid : ρ nid = none := hfr (nid, .cells t [y]) List.mem_cons_self (Nat.le_refl _)
   obtain ⟨q1, q2, _⟩ := Z208 hone hargs
   refine (hc v w q1 q2).mono ?_
   rintro e w' ⟨rfl, rfl⟩
   have hS := H.alloc nid hid t [y] [v] (by simp only [repL, and_true]; exact hargs)
   refine ⟨_, _, M, rfl, Loc.only_put hid _ _ List.mem_cons_self, Mem.le_refl _, hS, ?_⟩
   show rep _ M noG (.fn g [.ptr nid 0]) _
   rw [rep]
   refine ⟨[.pointer (some ⟨w.heap.size, 0, none⟩)], rfl, ?_⟩
   simp only [repL, and_true]
   rw [rep]
   exact ⟨w.heap.size, by simp [Loc.put], rfl⟩
  | [], hargs => simp [repL] at hargs
  | _ :: _ :: _, hargs => simp [repL] at hargs

theorem SimH.row (H : SimH B w0 M0 h w ρ M) {l : List ByteArray} {b cap : Nat} (hcap : l.length ≤ cap) (hbl : w.heap.size ≤ b) (hb : Below w.heap.size w w') (hcell : ∀ (j : Nat) x, l[j]? = some x → w'.cell? ⟨b, j, none⟩ = some (.string x)) :
  ∃ M', M.le M' ∧ SimH B w0 M0 h w' ρ M' ∧ rep ρ M' noG (.coll ⟨.str, l⟩) (.slice (some ⟨b, 0, none⟩) l.length cap) := by
 have hnone : ∀ b' o, b' = b → M b' o = none := by
  rintro b' o rfl
  cases hm : M b' o with
  | none => rfl
  | some v =>
   have := World.block_lt_of_cell? w _ (H.mem b' o v hm)
   simp only at this
   omega
 have hM : M.le (M.row b (l.map Value.string)) := by
  intro b' o v hv
  unfold Mem.row
  rw [if_neg]
  · exact hv
  · rintro ⟨e, _⟩
    rw [hnone b' o e] at hv
    cases hv
 refine ⟨M.row b (l.map Value.string), hM, ?_, ?_⟩
 · refine H.world hM (fun i r _ hr => ⟨hb.block r (H.own r i hr).2, fun off hn => ?_⟩) ?_ ?_ (Keeps.of_below hb H.size)
   · unfold Mem.row
     rw [if_neg]
     · exact hn
     · rintro ⟨rfl, _⟩
       have := (H.own _ i hr).2
       omega
   · intro b' o v hv
     unfold Mem.row at hv
     split at hv
     · rename_i hc
       obtain ⟨rfl, _⟩ := hc
       rw [List.getElem?_map] at hv
       cases hx : l[o]? with
       | none => rw [hx] at hv; cases hv
       | some x =>
        rw [hx] at hv
        injection hv with hv
        rw [← hv]
        exact hcell o x hx
     · have h1 := H.mem b' o v hv
       have hlt := World.block_lt_of_cell? w _ h1
       rw [← h1]
       unfold World.cell?
       rw [hb.block b' hlt]
   · intro b' o hB
     unfold Mem.row
     rw [if_neg]
     rintro ⟨rfl, _⟩
     have := H.size _ hB
     omega
 · simp only [rep]
   refine ⟨some ⟨b, 0, none⟩, cap, rfl, hcap, fun _ => ⟨b, 0, rfl, fun i hi j x hx => ?_⟩⟩
   have hi' : i < l.length := hi
   have hx' : ([AV.str (l.getD i default)] : List AV)[j]? = some x := hx
   match j, hx' with
   | 0, hx' =>
    have e : x = .str (l.getD i default) := by simpa using hx'.symm
    subst e
    refine ⟨.string (l.getD i default), ?_, rfl⟩
    have e2 : 0 + i * (Coll.esz ⟨.str, l⟩) + 0 = i := by show 0 + i * 1 + 0 = i; omega
    rw [e2]
    unfold Mem.row
    rw [if_pos ⟨rfl, by simpa using hi'⟩, List.getElem?_map, List.getElem?_eq_getElem hi', List.getD_eq_getElem?_getD, List.getElem?_eq_getElem hi']
    rfl
   | j + 1, hx' => simp at hx'

def Z39 (ks : List ByteArray) : List ByteArray := ((ks.map fun k => k.data.toList).mergeSort fun x y => decide (x ≤ y)).map fun l => ⟨l.toArray⟩
theorem Z187 (ks : List ByteArray) : (Z39 ks).length = ks.length := by simp [Z39]
theorem sortB_mem (ks : List ByteArray) (x : ByteArray) : x ∈ Z39 ks ↔ x ∈ ks := by
 simp only [Z39, List.mem_map, List.mem_mergeSort]
 constructor
 · rintro ⟨l, ⟨y, hy, rfl⟩, rfl⟩
   exact hy
 · intro hx
   exact ⟨x.data.toList, ⟨x, hx, rfl⟩, rfl⟩
def keysAt (h : List AObj) : AV → Option (List ByteArray × List Prop)
 | .map id => match hget h id with
  | .vols es _ => some (es.map Prod.fst, [])
  | .map ⟨.str, _, es⟩ => some (es.map Prod.fst, [])
  | _ => none
 | .mapq b id n => match Z268 h id n with
  | some (es, k) => some (((vget es k).getD default).nodes.map Prod.fst, [b = true ∧ (vget es k).isSome = true])
  | none => none
 | _ => none
theorem keysAt_at (H : SimH B w0 M0 h w ρ M) {x : AV} {v : Value} (hv : rep ρ M noG x v) {ks : List ByteArray} {ps : List Prop} (hk : keysAt h x = some (ks, ps)) (hp : ∀ p ∈ ps, p) :
  ∃ (b : Nat) (ents : Array MapEntry) (clock : Nat) (k : Kind) (xs : List (ByteArray × k.Ty)), v = .map (some b) ∧ w.heap[b]? = some (.map ents clock) ∧ Z51 M .str k xs ents.toList ∧ MapKept.Stamped ents clock ∧ xs.map Prod.fst = ks := by
 cases x <;> simp only [keysAt] at hk <;> try cases hk
 case map id =>
  simp only [rep] at hv
  obtain ⟨r, hr, rfl⟩ := hv
  split at hk
  · rename_i es al ho
    obtain ⟨r', ents, clock, xs, h1, h2, h3, h4, hst, h5, _⟩ := Z235 H ho
    rw [hr] at h1
    injection h1 with h1
    injection h1 with h1
    subst h1
    simp only [Option.some.injEq, Prod.mk.injEq] at hk
    obtain ⟨rfl, rfl⟩ := hk
    refine ⟨r, ents, clock, .dv, xs, rfl, h3, h4, hst, ?_⟩
    have key : ∀ {es : List (ByteArray × XVn)} {xs : List (ByteArray × XDv)}, inVs ρ.own M w id r es xs → xs.map Prod.fst = es.map Prod.fst := by
     intro es
     induction es with
     | nil => intro xs h; cases xs with
      | nil => rfl
      | cons _ _ => exact h.elim
     | cons e es ih => intro xs h; cases xs with
      | nil => exact h.elim
      | cons x xs => simp only [List.map_cons]; rw [ih h.2, ← h.1.1]
    exact key h5
  · rename_i kv es ho
    have hob := H.obj id
    rw [ho] at hob
    obtain ⟨r', ents, clock, h1, h2, h3, h4, h5⟩ := hob
    rw [hr] at h1
    injection h1 with h1
    injection h1 with h1
    subst h1
    simp only [Option.some.injEq, Prod.mk.injEq] at hk
    obtain ⟨rfl, rfl⟩ := hk
    exact ⟨r, ents, clock, kv, es, rfl, h3, h4, h5, rfl⟩
  · cases hk
 case mapq b id n =>
  split at hk
  · rename_i es k hva
    simp only [Option.some.injEq, Prod.mk.injEq] at hk
    obtain ⟨rfl, rfl⟩ := hk
    obtain ⟨hb, hs⟩ := hp _ List.mem_cons_self
    rcases Z1ba H (Z132 hva) hv (by rw [hb, hs]) with ⟨_, h2⟩ | ⟨r, _, _, _, e, _, q, en, cl, h1, _, _, _, _, _, _, _, _, h2, _, _, _, _, h3, h4, h5⟩
    · rw [h2] at hs; cases hs
    · refine ⟨q, en, cl, .bool, e.nodes, h1, h3, h4, h5, ?_⟩
      rw [h2]
      rfl
  · cases hk
noncomputable def rangeIn (site i : Nat) : Code := ((Zcc 9999 (Globs.site site).2.2)[i]?.map Prod.snd).getD .skip
end Go.Eng
namespace Go.Proofs.YtkledlcmhbjadaaGreatDoor
open Go Go.Eng Go.RowKit Go.Proofs
def SortedAt (P : Program) (f g : FuncId) : Prop := ∀ (B b nn : Nat) (D0 : DataW Unit) (w : World), B < w.heap.size → w.cell? ⟨B, 0, none⟩ = some (.map (some b)) → w.ownsMap P 9 rdAll b nn D0 → Maps.size D0 ≤ maxLen → Maps.size D0 * 16 ≤ 140737488355328 →
  Calls P f #[.func (.func g) #[] #[.pointer (some ⟨B, 0, none⟩)]] w fun e w' => ∃ (v : Value) (ss : List (List UInt8)), e = .returned v ∧ ss.Perm (Go.strKeys D0) ∧
   w'.ownsRow w.heap.size 9 1 v ss.length ((ss.mergeSort (fun x y => decide (x ≤ y))).map encStr) ∧ (v = .slice none 0 0 ↔ ss = []) ∧ Below w.heap.size w w'
noncomputable def factSorted {P : Program} (f g : FuncId) (ent : ∀ (vs : Array Value) (w : World), (callFunc f vs).run P w = .ok (.enter f vs) w) (hs : P.underlying 9 = some .string) (hc : SortedAt P f g) : Fact P where
 f := f
 K := fun args h _ => match args with
  | [.fn g' [.ptr c 0]] => if g' = g then match hget h c with
    | .cells _ [m] => match keysAt h m with
     | some (ks, ps) => some (.coll ⟨.str, Z39 ks⟩, [], (ks.length ≤ 1000000 ∧ ∀ k ∈ ks, k.size ≤ maxLen) :: ps)
     | none => none
    | _ => none
   else none
  | _ => none
 ent := ent
 ok := fun args hr nid x effs need hk hn => by
  split at hk
  case h_2 => cases hk
  rename_i g' c
  split at hk
  case isFalse => cases hk
  rename_i hg
  subst hg
  split at hk
  case h_2 => cases hk
  rename_i ct m hcell
  split at hk
  case h_2 => cases hk
  rename_i ks ps hks
  simp only [Option.some.injEq, Prod.mk.injEq] at hk
  obtain ⟨rfl, rfl, rfl⟩ := hk
  obtain ⟨hlen, hsz⟩ := hn _ List.mem_cons_self
  replace hn := fun p hp => hn p (List.mem_cons_of_mem _ hp)
  intro B w0 M0 h w ρ M vs H hle _ hargs
  have hkeys : keysAt h m = some (ks, ps) := by
   have keep : ∀ id, hget hr id ≠ .dead → hget h id = hget hr id := hle
   cases m <;> simp only [keysAt] at hks ⊢ <;> try cases hks
   · rename_i id
     have e : hget h id = hget hr id := keep id (by intro e; rw [e] at hks; cases hks)
     rw [e]; exact hks
   · rename_i b id n
     have e : hget h id = hget hr id := keep id (by
      intro e
      simp only [Z268] at hks
      rw [e] at hks; cases hks)
     have e2 : Z268 h id n = Z268 hr id n := by unfold Z268; rw [e]
     rw [e2]; exact hks
  have hcell' : hget h c = .cells ct [m] := (hle c (by rw [hcell]; nofun)).trans hcell
  match vs, hargs with
  | [v], hargs =>
   simp only [repL, and_true, rep] at hargs
   obtain ⟨us, rfl, hus⟩ := hargs
   match us, hus with
   | [u], hus =>
    simp only [repL, and_true, rep] at hus
    obtain ⟨r, hr1, rfl⟩ := hus
    have hob := H.obj c
    rw [hcell'] at hob
    obtain ⟨r', cv, o1, o2, o3, o4, o5⟩ := hob
    rw [hr1] at o1
    injection o1 with o1
    injection o1 with o1
    subst o1
    match cv, o3, o4 with
    | [mv], o3, o4 =>
     simp only [repL, and_true] at o4
     obtain ⟨b, ents, clock, k, xs, rfl, hb, hent, hst, hxs⟩ := keysAt_at H o4 hkeys hn
     have hxl : xs.length = ents.size := by have := Zd7 hent; simpa using this
     have hkl : ks.length = xs.length := by rw [← hxs]; simp
     have hkx : ∀ x ∈ xs, x.1.size ≤ maxLen := fun x hx => hsz x.1 (by rw [← hxs]; exact List.mem_map.2 ⟨x, hx, rfl⟩)
     have hml : (1000000 : Nat) ≤ maxLen := by unfold maxLen; omega
     have hown := owns_of (P := P) hs hb hent hst (by omega) hkx
     have hsz2 : Maps.size (datumOf P ents) = xs.length := size_datum hent
     have hcell1 : w.cell? ⟨r, 0, none⟩ = some (.map (some b)) := by unfold World.cell?; rw [o3]; rfl
     refine (hc r b ents.size (datumOf P ents) w (Array.getElem?_eq_some_iff.1 o3).1 hcell1 hown (by rw [hsz2]; omega) (by rw [hsz2]; omega)).mono ?_
     rintro e w' ⟨v, ss, rfl, hperm, hrow, hnil, hbel⟩
     have hpm : ss.Perm (ks.map fun k => k.data.toList) := by
      refine hperm.trans ((strKeys_datum hs hent hkx).trans (List.Perm.of_eq ?_))
      rw [← hxs, List.map_map]
      rfl
     have hsl : ss.length = (Z39 ks).length := by rw [Z187, hpm.length_eq, List.length_map]
     have hms : (ss.mergeSort (fun x y => decide (x ≤ y))).map encStr = (Z39 ks).map Value.string := by
      rw [Go.mergeSort_of_perm hpm]
      unfold Z39
      rw [List.map_map]
      rfl
     rw [hms] at hrow
     obtain ⟨hrl, hrow⟩ := hrow
     rcases hrow with ⟨rfl, h0⟩ | ⟨gb, cap, cur, rfl, hbase, hgb, hcap, hmax, hcs, hcur⟩
     · refine ⟨_, ρ, M, rfl, Loc.only_refl _ _, Mem.le_refl _, H.call hbel, ?_⟩
       simp only [rep]
       refine ⟨none, 0, ?_, ?_, fun h1 => ?_⟩
       · show Value.slice none 0 0 = Value.slice none (Z39 ks).length 0
         rw [← hsl, h0]
       · show (Z39 ks).length ≤ 0
         omega
       · have h1 : 0 < (Z39 ks).length := h1
         omega
     · rw [hsl] at hcap ⊢
       obtain ⟨M', m1, m2, m3⟩ := H.row (l := Z39 ks) hcap hbase hbel (by
        intro j x hx
        have hjl := (List.getElem?_eq_some_iff.1 hx).1
        have hxx : cur.toList[j]? = some (.string x) := by
         have h2 : (cur.toList.take (ss.length * 1))[j]? = some (.string x) := by
          rw [hcur, List.getElem?_map, hx]; rfl
         rw [List.getElem?_take] at h2
         split at h2
         · exact h2
         · cases h2
        unfold World.cell?
        rw [hgb]
        simpa using hxx)
       exact ⟨_, ρ, M', rfl, Loc.only_refl _ _, m1, m2, m3⟩
    | [], _, o4 => simp [repL] at o4
    | _ :: _ :: _, _, o4 => simp [repL] at o4
   | [], hus => simp [repL] at hus
   | _ :: _ :: _, hus => simp [repL] at hus
  | [], hargs => simp [repL] at hargs
  | _ :: _ :: _, hargs => simp [repL] at hargs
noncomputable def box54_fact : Fact Tryz.prog := factBox 49 58 85 (Z20e (fn := Tryz.f49) (by kernel_rfl) (c := Z3a Tryz.f49) rfl (by kernel_rfl)) fun v w q1 q2 => by
 go_enter Tryz.func49, Tryz.ntmps49
 go_wp2
 go_ret
 exact ⟨rfl, rfl⟩
noncomputable def box55_fact : Fact Tryz.prog := factBox 50 61 108 (Z20e (fn := Tryz.f50) (by kernel_rfl) (c := Z3a Tryz.f50) rfl (by kernel_rfl)) fun v w q1 q2 => by
 go_enter Tryz.func50, Tryz.ntmps50
 go_wp2
 go_ret
 exact ⟨rfl, rfl⟩
noncomputable def box84_fact : Fact Tryz.prog := factBox 60 73 85 (Z20e (fn := Tryz.f60) (by kernel_rfl) (c := Z3a Tryz.f60) rfl (by kernel_rfl)) fun v w q1 q2 => by
 go_enter Tryz.func60, Tryz.ntmps60
 go_wp2
 go_ret
 exact ⟨rfl, rfl⟩
noncomputable def box86_fact : Fact Tryz.prog := factBox 62 74 108 (Z20e (fn := Tryz.f62) (by kernel_rfl) (c := Z3a Tryz.f62) rfl (by kernel_rfl)) fun v w q1 q2 => by
 go_enter Tryz.func62, Tryz.ntmps62
 go_wp2
 go_ret
 exact ⟨rfl, rfl⟩
noncomputable def sorted103_fact : Fact Tryz.prog := factSorted 59 73 (Z20e (fn := Tryz.f59) (by kernel_rfl) (c := Z3a Tryz.f59) rfl (by kernel_rfl)) (by kernel_rfl) fun B b nn D0 w h1 h2 h3 h4 h5 => Go.Proofs.Tryz.sortedV B b nn D0 rdAll w h1 h2 h3 h4 h5
noncomputable def sorted104_fact : Fact Tryz.prog := factSorted 59 74 (Z20e (fn := Tryz.f59) (by kernel_rfl) (c := Z3a Tryz.f59) rfl (by kernel_rfl)) (by kernel_rfl) fun B b nn D0 w h1 h2 h3 h4 h5 => Go.Proofs.Tryz.sortedB B b nn D0 rdAll w h1 h2 h3 h4 h5
end Go.Proofs.YtkledlcmhbjadaaGreatDoor
