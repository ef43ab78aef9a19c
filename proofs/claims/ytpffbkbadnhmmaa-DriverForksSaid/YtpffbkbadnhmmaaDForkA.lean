/- Several objects at once, in blocks that a call has made; a map's entry that is there is set anew. -/
import Derived.Test.YtpffbkbadnhmmaaEE
import Derived.Maps.RangeRun
set_option linter.unusedVariables false
set_option linter.unusedSimpArgs false
namespace Go.Eng
open Go.RowKit (Below)

theorem hget_applyEff_or : ∀ (effs : Eff) (h : List AObj) (id : Nat), hget (Za h effs) id = hget h id ∨ ∃ e ∈ effs, e.1 = id ∧ hget (Za h effs) id = e.2
 | [], _, _ => .inl rfl
 | e :: effs, h, id => by
  show hget (Za (hset h e.1 e.2) effs) id = hget h id ∨ _
  rcases hget_applyEff_or effs (hset h e.1 e.2) id with g | ⟨e', h1, h2, h3⟩
  · rw [hget_hset] at g
    by_cases hi : e.1 = id
    · rw [if_pos hi] at g
      exact .inr ⟨e, List.mem_cons_self, hi, g⟩
    · rw [if_neg hi] at g
      exact .inl g
  · exact .inr ⟨e', List.mem_cons_of_mem _ h1, h2, h3⟩
theorem SimH.adopt {B : Nat → Prop} {w0 w w' : World} {M0 M : Mem} {h : List AObj} {ρ ρ' : Loc} (H : SimH B w0 M0 h w ρ M) (hb : Below w.heap.size w w') (effs : Eff) (hρ : ρ.only ρ' effs)
  (hold : ∀ r, r < w.heap.size → ρ'.own r = ρ.own r) (hnew : ∀ r i, w.heap.size ≤ r → ρ'.own r = some i → r < w'.heap.size) (hok : ∀ e ∈ effs, hget h e.1 = e.2 ∨ okObj ρ' M w' e.1 e.2) :
  SimH B w0 M0 (Za h effs) w' ρ' M where
 obj := fun id => by
  have old : okObj ρ' M w' id (hget h id) := (H.obj id).keep hρ.1 (Mem.le_refl _) fun r hr => ⟨by rw [hold r (H.own r id hr).2]; exact hr, hb.block r (H.own r id hr).2, fun _ h => h⟩
  rcases hget_applyEff_or effs h id with g | ⟨e, h1, h2, h3⟩
  · rw [g]; exact old
  · rw [h3]
    rcases hok e h1 with k | k
    · rw [← k, h2]; exact old
    · rw [← h2]; exact k
 fresh := fun i hi => by
  rw [hρ.2 i fun e he => by have := (len_applyEff effs h).2 e he; omega]
  exact H.fresh i (Nat.le_trans (len_applyEff effs h).1 hi)
 own := fun r i hr => by
  by_cases hlt : r < w.heap.size
  · rw [hold r hlt] at hr
    exact ⟨(H.own r i hr).1, Nat.lt_of_lt_of_le hlt hb.size⟩
  · exact ⟨fun hB => hlt (H.size r hB), hnew r i (by omega) hr⟩
 mem := fun b o v hv => by
  have hc := H.mem b o v hv
  have hlt := World.block_lt_of_cell? w _ hc
  rw [← hc]
  unfold World.cell?
  rw [hb.block b hlt]
 old := H.old
 below := H.below.trans (Keeps.of_below hb H.size)
 size := fun b h => Nat.lt_of_lt_of_le (H.size b h) hb.size
 good := H.good

theorem uniq_of_nodup {α β : Type} {f : α → β} : ∀ {l : List α}, (l.map f).Nodup → ∀ x ∈ l, ∀ y ∈ l, f x = f y → x = y
 | [], _, x, hx, _, _, _ => by cases hx
 | a :: l, h, x, hx, y, hy, e => by
  simp only [List.map_cons, List.nodup_cons] at h
  rcases List.mem_cons.1 hx with h1 | h1 <;> rcases List.mem_cons.1 hy with h2 | h2
  · rw [h1, h2]
  · rw [h1] at e; exact absurd (e ▸ List.mem_map_of_mem h2) h.1
  · rw [h2] at e; exact absurd (e ▸ List.mem_map_of_mem h1) h.1
  · exact uniq_of_nodup h.2 x h1 y h2 e
section
variable {P : Program} {w : World} {M : Mem}
theorem update_there {k v : Kind} {xs : List (k.Ty × v.Ty)} {r : Nat} {es : Array MapEntry} {cl : Nat} (hb : w.heap[r]? = some (.map es cl)) (he : repEs M k v xs es.toList) (hst : MapKept.Stamped es cl) {ty kt et : TypeId} (hu : P.underlying ty = some (.map kt et))
  (hk : keyOk P kt k = true) {x : k.Ty} {kv vv : Value} (hx : repV M k x kv) {y : v.Ty} (hy : repV M v y vv) {e0 : MapEntry} (h0 : e0 ∈ es.toList) (hk0 : e0.key = kv) :
  ∃ j, es[j]? = some e0 ∧ (Instr.mapUpdate ty (.map (some r)) kv vv).run P w = .ok () { w with heap := w.heap.setIfInBounds r (.map (es.modify j fun e => { e with key := kv, val := vv }) cl) } := by
 have hf := findKey_run (P := P) hk hx he w
 have hck := checkKey_run (P := P) hk hx false w
 obtain ⟨s1, s2⟩ := kfind_set (M := M) x y kv vv hx hy xs es.toList 0 he
 rcases kfind_get (M := M) x xs es.toList 0 he with ⟨h1, h2⟩ | ⟨j, y', u, h1, h2, h3, hlt⟩
 · exact absurd hk0 (kfind_new (P := P) hk hx _ _ _ he h1 e0 h0)
 · rw [h1] at hf
   obtain ⟨q1, e, q2, q3⟩ := s2 j u h1
   have hge : es[j]? = some e := by simpa using q2
   have hsb := sameBits_key (P := P) hk q3 hx
   have hkey : e.key = kv := key_unique (P := P) hk q3 hx
   have hee : e0 = e := uniq_of_nodup hst.2.2 e0 h0 e (List.mem_of_getElem? q2) (by rw [hk0, hkey])
   refine ⟨j, by rw [hee]; exact hge, ?_⟩
   simp only [Instr.mapUpdate, Sem.run_bind, run_underlying hu, Result.andThen_ok, run_getMap hb, hck, hf, Nat.zero_add, hge, Option.map_some, Option.getD_some, Instr.keyThatStays, hsb, if_true, Sem.run_pure, run_setMap hb]
end

def respot (v : Value) (q : Nat) : Value := match v with
 | .agg ⟨[a, b, c, _]⟩ => .agg #[a, b, c, .map (some q)]
 | v => v
def eG (g : Nat → Option Nat) (e : MapEntry) : MapEntry := match g e.born with
 | none => e
 | some q => { e with val := respot e.val q }
def xG (g : Nat → Option Nat) (x : ByteArray × XDv) (e : MapEntry) : ByteArray × XDv := match g e.born with
 | none => x
 | some q => (x.1, { x.2 with spot := some q })
theorem eG_born (g : Nat → Option Nat) (e : MapEntry) : (eG g e).born = e.born := by unfold eG; split <;> rfl
theorem eG_key (g : Nat → Option Nat) (e : MapEntry) : (eG g e).key = e.key := by unfold eG; split <;> rfl
theorem eG_none {g : Nat → Option Nat} {e : MapEntry} (h : g e.born = none) : eG g e = e := by unfold eG; rw [h]
theorem repEs_G {M : Mem} (g : Nat → Option Nat) : ∀ (xs : List (ByteArray × XDv)) (es : List MapEntry), repEs M .str .dv xs es → repEs M .str .dv (List.zipWith (xG g) xs es) (es.map (eG g))
 | [], [], _ => by simp [repEs]
 | x :: xs, e :: es, h => by
  simp only [repEs] at h
  simp only [List.zipWith_cons_cons, List.map_cons, repEs]
  refine ⟨?_, ?_, repEs_G g xs es h.2.2⟩
  · rw [eG_key]
    unfold xG
    split <;> exact h.1
  · unfold xG eG
    split
    · exact h.2.1
    · show repV M .dv _ (respot e.val _)
      rw [repV_dv h.2.1]
      exact dv_repV _
 | [], _ :: _, h => by simp [repEs] at h
 | _ :: _, [], h => by simp [repEs] at h
theorem born_G (g : Nat → Option Nat) (es : Array MapEntry) : (es.map (eG g)).toList.map (·.born) = es.toList.map (·.born) := by
 rw [Array.toList_map, List.map_map]
 exact List.map_congr_left fun e _ => eG_born g e
theorem key_G (g : Nat → Option Nat) (es : Array MapEntry) : (es.map (eG g)).toList.map (·.key) = es.toList.map (·.key) := by
 rw [Array.toList_map, List.map_map]
 exact List.map_congr_left fun e _ => eG_key g e
theorem stamped_G (g : Nat → Option Nat) {es : Array MapEntry} {cl : Nat} (h : MapKept.Stamped es cl) : MapKept.Stamped (es.map (eG g)) cl := by
 refine ⟨fun x hx => ?_, by rw [born_G]; exact h.2.1, by rw [key_G]; exact h.2.2⟩
 rw [Array.toList_map] at hx
 obtain ⟨e, he, rfl⟩ := List.mem_map.1 hx
 rw [eG_born]
 exact h.1 e he
theorem modify_G {g : Nat → Option Nat} {es : Array MapEntry} {cl j q : Nat} {e0 : MapEntry} {kv vv : Value} (h : MapKept.Stamped es cl) (hj : (es.map (eG g))[j]? = some e0) (hg : g e0.born = none) (hkv : e0.key = kv) (hvv : respot e0.val q = vv) :
  ((es.map (eG g)).modify j fun e => { e with key := kv, val := vv }) = es.map (eG fun b => if b = e0.born then some q else g b) := by
 apply Array.ext_getElem?
 intro i
 rw [Array.getElem?_modify, Array.getElem?_map] at *
 rw [Array.getElem?_map]
 cases hj' : es[j]? with
 | none => rw [hj'] at hj; cases hj
 | some ej =>
  rw [hj'] at hj
  simp only [Option.map_some, Option.some.injEq] at hj
  have hbj : ej.born = e0.born := by rw [← hj, eG_born]
  have hej : ej = e0 := by rw [← hj, eG_none (by rw [hbj]; exact hg)]
  by_cases hji : j = i
  · subst hji
    rw [if_pos rfl, hj']
    simp only [Option.map_some, Option.some.injEq]
    rw [hj, hej]
    unfold eG
    simp only [if_true]
    rw [← hkv, ← hvv]
  · rw [if_neg hji]
    cases hi : es[i]? with
    | none => rfl
    | some ei =>
     simp only [Option.map_some, Option.some.injEq]
     have hne : ei.born ≠ e0.born := by
      intro hb
      have hlt : i < (es.toList.map (·.born)).length := by
       have := (Array.getElem?_eq_some_iff.1 hi).1
       simpa using this
      have hlj : j < (es.toList.map (·.born)).length := by
       have := (Array.getElem?_eq_some_iff.1 hj').1
       simpa using this
      refine hji ((List.getElem_inj (h₀ := hlj) (h₁ := hlt) h.2.1).1 ?_)
      have e1 := (Array.getElem?_eq_some_iff.1 hi).2
      have e2 := (Array.getElem?_eq_some_iff.1 hj').2
      simp only [List.getElem_map, Array.getElem_toList, e1, e2]
      rw [hb, hbj]
     unfold eG
     simp only [if_neg hne]
theorem left_G (g : Nat → Option Nat) (es : Array MapEntry) (seen : Array Nat) : (leftOf (es.map (eG g)) seen).size = (leftOf es seen).size := by
 unfold leftOf
 rw [Array.filter_map, Array.size_map]
 congr 2
 funext e
 simp only [Function.comp_apply, eG_born]
def spotOf (v : Value) : Option Nat := match v with
 | .agg ⟨[_, _, _, .map q]⟩ => q
 | _ => none
theorem spotOf_rep {M : Mem} {x : XDv} {v : Value} (h : repV M .dv x v) : spotOf v = x.spot := by rw [repV_dv h]; rfl
theorem spots_G {M : Mem} {g : Nat → Option Nat} : ∀ (xs : List (ByteArray × XDv)) (es : List MapEntry), repEs M .str .dv xs es → (∀ e ∈ es, (g e.born).isSome = true) → (List.zipWith (xG g) xs es).map (fun x => x.2.spot) = es.map fun e => g e.born
 | [], [], _, _ => rfl
 | x :: xs, e :: es, h, hg => by
  simp only [repEs] at h
  simp only [List.zipWith_cons_cons, List.map_cons]
  rw [spots_G xs es h.2.2 fun e he => hg e (List.mem_cons_of_mem _ he)]
  congr 1
  have := hg e List.mem_cons_self
  unfold xG
  cases hq : g e.born with
  | none => rw [hq] at this; cases this
  | some q => rfl
 | [], _ :: _, h, _ => by simp [repEs] at h
 | _ :: _, [], h, _ => by simp [repEs] at h
theorem nodup_G {g : Nat → Option Nat} (hi : ∀ a b q, g a = some q → g b = some q → a = b) : ∀ (es : List MapEntry), (es.map (·.born)).Nodup → (∀ e ∈ es, (g e.born).isSome = true) → (es.map fun e => g e.born).Nodup
 | [], _, _ => by simp
 | e :: es, hn, hs => by
  simp only [List.map_cons, List.nodup_cons] at hn ⊢
  refine ⟨fun hm => ?_, nodup_G hi es hn.2 fun e he => hs e (List.mem_cons_of_mem _ he)⟩
  obtain ⟨e', he', hg⟩ := List.mem_map.1 hm
  obtain ⟨q, hq⟩ := Option.isSome_iff_exists.1 (hs e List.mem_cons_self)
  rw [hq] at hg
  exact hn.1 (by rw [← hi _ _ _ hg hq]; exact List.mem_map_of_mem he')
theorem inVs_G {own own' : Nat → Option Nat} {M : Mem} {w w' : World} {id id' r r' : Nat} {g : Nat → Option Nat} : ∀ (es : List (ByteArray × XVn)) (xs : List (ByteArray × XDv)) (ents : List MapEntry), inVs own M w id r es xs → repEs M .str .dv xs ents →
  (∀ e ∈ ents, ∃ q', g e.born = some q' ∧ q' ≠ r' ∧ own' q' = some id' ∧ ∀ q, spotOf e.val = some q → w'.heap[q']? = w.heap[q]?) → inVs own' M w' id' r' es (List.zipWith (xG g) xs ents)
 | [], [], [], _, _, _ => trivial
 | v :: es, x :: xs, e :: ents, h, hr, hg => by
  obtain ⟨⟨h1, h2, h3, h4, q, en, cl, h5, h6, h7, h8, h9⟩, h10⟩ := h
  simp only [repEs] at hr
  obtain ⟨q', k1, k2, k3, k4⟩ := hg e List.mem_cons_self
  have hx : xG g x e = (x.1, { x.2 with spot := some q' }) := by unfold xG; rw [k1]
  rw [List.zipWith_cons_cons, hx]
  refine ⟨⟨h1, h2, h3, h4, q', en, cl, rfl, k2, k3, ?_, h9⟩, inVs_G es xs ents h10 hr.2.2 fun e he => hg e (List.mem_cons_of_mem _ he)⟩
  rw [k4 q (by rw [spotOf_rep hr.2.1]; exact h5)]
  exact h8
 | [], _ :: _, _, h, _, _ => h.elim
 | _ :: _, [], _, h, _, _ => h.elim
 | [], [], _ :: _, _, hr, _ => by simp [repEs] at hr
 | _ :: _, _ :: _, [], _, hr, _ => by simp [repEs] at hr
end Go.Eng
