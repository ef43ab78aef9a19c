/- Fork. -/
import Derived.Test.YtkledlcmhbjadaaGreatEE
import Derived.Maps.RangeRun
import Derived.Shelf.SlMaps.Clone
import Derived.Ground.SlmcProg
import Derived.Test.YtkledlcmhbjadaaGreatProg
import Derived.Test.YtkledlcmhbjadaaGreatDH1
import Derived.Deep.RegionHeld3
import Derived.WalkKit
import Derived.Tactics2
import Derived.Maps.RangeWalk
import Derived.StillTailTactics
set_option linter.unusedVariables false
set_option linter.unusedSimpArgs false
section
namespace Go.Eng
open Go.RowKit (Below)

theorem Z14a : ∀ (effs : Eff) (h : List AObj) (id : Nat), hget (Ze h effs) id = hget h id ∨ ∃ e ∈ effs, e.1 = id ∧ hget (Ze h effs) id = e.2
 | [], _, _ => .inl rfl
 | e :: effs, h, id => by
  show hget (Ze (hset h e.1 e.2) effs) id = hget h id ∨ _
  rcases Z14a effs (hset h e.1 e.2) id with g | ⟨e', h1, h2, h3⟩
  · rw [Z2e] at g
    by_cases hi : e.1 = id
    · rw [if_pos hi] at g
      exact .inr ⟨e, mS, hi, g⟩
    · rw [if_neg hi] at g
      exact .inl g
  · exact .inr ⟨e', mN h1, h2, h3⟩
theorem SimH.adopt {B : Nat → Prop} {w0 w w' : World} {M0 M : Mem} {h : List AObj} {ρ ρ' : Loc} (H : SimH B w0 M0 h w ρ M) (hb : Below w.heap.size w w') (effs : Eff) (hρ : ρ.only ρ' effs)
  (hold : ∀ r, r < w.heap.size → ρ'.own r = ρ.own r) (hnew : ∀ r i, w.heap.size ≤ r → ρ'.own r = some i → r < w'.heap.size) (hok : ∀ e ∈ effs, hget h e.1 = e.2 ∨ Zc2 ρ' M w' e.1 e.2) :
  SimH B w0 M0 (Ze h effs) w' ρ' M where
 obj := fun id => by
  have old : Zc2 ρ' M w' id (hget h id) := (H.obj id).keep hρ.1 (Mem.le_refl _) fun r hr => ⟨by rw [hold r (H.own r id hr).2]; exact hr, hb.block r (H.own r id hr).2, fun _ h => h⟩
  rcases Z14a effs h id with g | ⟨e, h1, h2, h3⟩
  · rw [g]; exact old
  · rw [h3]
    rcases hok e h1 with k | k
    · rw [← k, h2]; exact old
    · rw [← h2]; exact k
 fresh := fun i hi => by
  rw [hρ.2 i fun e he => by have := (Z8b effs h).2 e he; omega]
  exact H.fresh i (Nat.le_trans (Z8b effs h).1 hi)
 own := fun r i hr => by
  by_cases hlt : r < w.heap.size
  · rw [hold r hlt] at hr
    exact ⟨(H.own r i hr).1, Nat.lt_of_lt_of_le hlt hb.size⟩
  · exact ⟨fun hB => hlt (H.size r hB), hnew r i (by omega) hr⟩
 mem := fun b o v hv => by
  have hc := H.mem b o v hv
  have hlt := World.block_lt_of_cell? w _ hc
  rw [← hc]
  unfold World.cell?
  rw [hb.block b hlt]
 old := H.old
 below := H.below.trans (Keeps.of_below hb H.size)
 size := fun b h => Nat.lt_of_lt_of_le (H.size b h) hb.size
 good := H.good

theorem Z130 {α β : Type} {f : α → β} : ∀ {l : List α}, (l.map f).Nodup → ∀ x ∈ l, ∀ y ∈ l, f x = f y → x = y
 | [], _, x, hx, _, _, _ => by cases hx
 | a :: l, h, x, hx, y, hy, e => by
  simp only [List.map_cons, List.nodup_cons] at h
  rcases List.mem_cons.1 hx with h1 | h1 <;> rcases List.mem_cons.1 hy with h2 | h2
  · rw [h1, h2]
  · rw [h1] at e; exact absurd (e ▸ List.mem_map_of_mem h2) h.1
  · rw [h2] at e; exact absurd (e ▸ List.mem_map_of_mem h1) h.1
  · exact Z130 h.2 x h1 y h2 e
section
variable {P : Program} {w : World} {M : Mem}
theorem update_there {k v : Kind} {xs : List (k.Ty × v.Ty)} {r : Nat} {es : Array MapEntry} {cl : Nat} (hb : w.heap[r]? = some (.map es cl)) (he : Z39 M k v xs es.toList) (hst : MapKept.Stamped es cl) {ty kt et : TypeId} (hu : P.underlying ty = some (.map kt et))
  (hk : Z9b P kt k = true) {x : k.Ty} {kv vv : Value} (hx : repV M k x kv) {y : v.Ty} (hy : repV M v y vv) {e0 : MapEntry} (h0 : e0 ∈ es.toList) (hk0 : e0.key = kv) :
  ∃ j, es[j]? = some e0 ∧ (Instr.mapUpdate ty (.map (some r)) kv vv).run P w = .ok () { w with heap := w.heap.setIfInBounds r (.map (es.modify j fun e => { e with key := kv, val := vv }) cl) } := by
 have hf := Za1 (P := P) hk hx he w
 have hck := Z8d (P := P) hk hx false w
 obtain ⟨s1, s2⟩ := Z1eb (M := M) x y kv vv hx hy xs es.toList 0 he
 rcases Za7 (M := M) x xs es.toList 0 he with ⟨h1, h2⟩ | ⟨j, y', u, h1, h2, h3, hlt⟩
 · exact absurd hk0 (Z1ec (P := P) hk hx _ _ _ he h1 e0 h0)
 · rw [h1] at hf
   obtain ⟨q1, e, q2, q3⟩ := s2 j u h1
   have hge : es[j]? = some e := by simpa using q2
   have hsb := Z15c (P := P) hk q3 hx
   have hkey : e.key = kv := Z222 (P := P) hk q3 hx
   have hee : e0 = e := Z130 hst.2.2 e0 h0 e (List.mem_of_getElem? q2) (by rw [hk0, hkey])
   refine ⟨j, by rw [hee]; exact hge, ?_⟩
   simp only [Instr.mapUpdate, Sem.run_bind, run_underlying hu, Result.andThen_ok, Z6d hb, hck, hf, Nat.zero_add, hge, Option.map_some, Option.getD_some, Instr.keyThatStays, hsb, if_true, Sem.run_pure, Za3 hb]
end

def respot (v : Value) (q : Nat) : Value := match v with
 | .agg ⟨[a, b, c, _]⟩ => .agg #[a, b, c, .map (some q)]
 | v => v
def eG (g : Nat → Option Nat) (e : MapEntry) : MapEntry := match g e.born with
 | none => e
 | some q => { e with val := respot e.val q }
def xG (g : Nat → Option Nat) (x : BA × XDv) (e : MapEntry) : BA × XDv := match g e.born with
 | none => x
 | some q => (x.1, { x.2 with spot := some q })
theorem eG_born (g : Nat → Option Nat) (e : MapEntry) : (eG g e).born = e.born := by unfold eG; split <;> rfl
theorem eG_key (g : Nat → Option Nat) (e : MapEntry) : (eG g e).key = e.key := by unfold eG; split <;> rfl
theorem eG_none {g : Nat → Option Nat} {e : MapEntry} (h : g e.born = none) : eG g e = e := by unfold eG; rw [h]
theorem repEs_G {M : Mem} (g : Nat → Option Nat) : ∀ (xs : List (BA × XDv)) (es : List MapEntry), Z39 M .str .dv xs es → Z39 M .str .dv (List.zipWith (xG g) xs es) (es.map (eG g))
 | [], [], _ => by simp [Z39]
 | x :: xs, e :: es, h => by
  simp only [Z39] at h
  simp only [List.zipWith_cons_cons, List.map_cons, Z39]
  refine ⟨?_, ?_, repEs_G g xs es h.2.2⟩
  · rw [eG_key]
    unfold xG
    split <;> exact h.1
  · unfold xG eG
    split
    · exact h.2.1
    · show repV M .dv _ (respot e.val _)
      rw [repV_dv h.2.1]
      exact dv_repV _
 | [], _ :: _, h => by simp [Z39] at h
 | _ :: _, [], h => by simp [Z39] at h
theorem born_G (g : Nat → Option Nat) (es : Array MapEntry) : (es.map (eG g)).toList.map (·.born) = es.toList.map (·.born) := by
 rw [Array.toList_map, List.map_map]
 exact List.map_congr_left fun e _ => eG_born g e
theorem key_G (g : Nat → Option Nat) (es : Array MapEntry) : (es.map (eG g)).toList.map (·.key) = es.toList.map (·.key) := by
 rw [Array.toList_map, List.map_map]
 exact List.map_congr_left fun e _ => eG_key g e
theorem Z1d2 (g : Nat → Option Nat) {es : Array MapEntry} {cl : Nat} (h : MapKept.Stamped es cl) : MapKept.Stamped (es.map (eG g)) cl := by
 refine ⟨fun x hx => ?_, by rw [born_G]; exact h.2.1, by rw [key_G]; exact h.2.2⟩
 rw [Array.toList_map] at hx
 obtain ⟨e, he, rfl⟩ := List.mem_map.1 hx
 rw [eG_born]
 exact h.1 e he
theorem modify_G {g : Nat → Option Nat} {es : Array MapEntry} {cl j q : Nat} {e0 : MapEntry} {kv vv : Value} (h : MapKept.Stamped es cl) (hj : (es.map (eG g))[j]? = some e0) (hg : g e0.born = none) (hkv : e0.key = kv) (hvv : respot e0.val q = vv) :
  ((es.map (eG g)).modify j fun e => { e with key := kv, val := vv }) = es.map (eG fun b => if b = e0.born then some q else g b) := by
 apply Array.ext_getElem?
 intro i
 rw [Array.getElem?_modify, Array.getElem?_map] at *
 rw [Array.getElem?_map]
 cases hj' : es[j]? with
 | none => rw [hj'] at hj; cases hj
 | some ej =>
  rw [hj'] at hj
  simp only [Option.map_some, Option.some.injEq] at hj
  have hbj : ej.born = e0.born := by rw [← hj, eG_born]
  have hej : ej = e0 := by rw [← hj, eG_none (by rw [hbj]; exact hg)]
  by_cases hji : j = i
  · subst hji
    rw [if_pos rfl, hj']
    simp only [Option.map_some, Option.some.injEq]
    rw [hj, hej]
    unfold eG
    simp only [if_true]
    rw [← hkv, ← hvv]
  · rw [if_neg hji]
    cases hi : es[i]? with
    | none => rfl
    | some ei =>
     simp only [Option.map_some, Option.some.injEq]
     have hne : ei.born ≠ e0.born := by
      intro hb
      have hlt : i < (es.toList.map (·.born)).length := by
       have := (Array.getElem?_eq_some_iff.1 hi).1
       simpa using this
      have hlj : j < (es.toList.map (·.born)).length := by
       have := (Array.getElem?_eq_some_iff.1 hj').1
       simpa using this
      refine hji ((List.getElem_inj (h₀ := hlj) (h₁ := hlt) h.2.1).1 ?_)
      have e1 := (Array.getElem?_eq_some_iff.1 hi).2
      have e2 := (Array.getElem?_eq_some_iff.1 hj').2
      simp only [List.getElem_map, Array.getElem_toList, e1, e2]
      rw [hb, hbj]
     unfold eG
     simp only [if_neg hne]
theorem left_G (g : Nat → Option Nat) (es : Array MapEntry) (seen : Array Nat) : (leftOf (es.map (eG g)) seen).size = (leftOf es seen).size := by
 unfold leftOf
 rw [Array.filter_map, Array.size_map]
 congr 2
 funext e
 simp only [Function.comp_apply, eG_born]
def Z1d4 (v : Value) : Option Nat := match v with
 | .agg ⟨[_, _, _, .map q]⟩ => q
 | _ => none
theorem Z20e {M : Mem} {x : XDv} {v : Value} (h : repV M .dv x v) : Z1d4 v = x.spot := by rw [repV_dv h]; rfl
theorem spots_G {M : Mem} {g : Nat → Option Nat} : ∀ (xs : List (BA × XDv)) (es : List MapEntry), Z39 M .str .dv xs es → (∀ e ∈ es, (g e.born).isSome = true) → (List.zipWith (xG g) xs es).map (fun x => x.2.spot) = es.map fun e => g e.born
 | [], [], _, _ => rfl
 | x :: xs, e :: es, h, hg => by
  simp only [Z39] at h
  simp only [List.zipWith_cons_cons, List.map_cons]
  rw [spots_G xs es h.2.2 fun e he => hg e (mN he)]
  congr 1
  have := hg e mS
  unfold xG
  cases hq : g e.born with
  | none => rw [hq] at this; cases this
  | some q => rfl
 | [], _ :: _, h, _ => by simp [Z39] at h
 | _ :: _, [], h, _ => by simp [Z39] at h
theorem nodup_G {g : Nat → Option Nat} (hi : ∀ a b q, g a = some q → g b = some q → a = b) : ∀ (es : List MapEntry), (es.map (·.born)).Nodup → (∀ e ∈ es, (g e.born).isSome = true) → (es.map fun e => g e.born).Nodup
 | [], _, _ => by simp
 | e :: es, hn, hs => by
  simp only [List.map_cons, List.nodup_cons] at hn ⊢
  refine ⟨fun hm => ?_, nodup_G hi es hn.2 fun e he => hs e (mN he)⟩
  obtain ⟨e', he', hg⟩ := List.mem_map.1 hm
  obtain ⟨q, hq⟩ := Option.isSome_iff_exists.1 (hs e mS)
  rw [hq] at hg
  exact hn.1 (by rw [← hi _ _ _ hg hq]; exact List.mem_map_of_mem he')
theorem inVs_G {own own' : Nat → Option Nat} {M : Mem} {w w' : World} {id id' r r' : Nat} {g : Nat → Option Nat} : ∀ (es : LB) (xs : List (BA × XDv)) (ents : List MapEntry), inVs own M w id r es xs → Z39 M .str .dv xs ents →
  (∀ e ∈ ents, ∃ q', g e.born = some q' ∧ q' ≠ r' ∧ own' q' = some id' ∧ ∀ q, Z1d4 e.val = some q → w'.heap[q']? = w.heap[q]?) → inVs own' M w' id' r' es (List.zipWith (xG g) xs ents)
 | [], [], [], _, _, _ => trivial
 | v :: es, x :: xs, e :: ents, h, hr, hg => by
  obtain ⟨⟨h1, h2, h3, h4, q, en, cl, h5, h6, h7, h8, h9⟩, h10⟩ := h
  simp only [Z39] at hr
  obtain ⟨q', k1, k2, k3, k4⟩ := hg e mS
  have hx : xG g x e = (x.1, { x.2 with spot := some q' }) := by unfold xG; rw [k1]
  rw [List.zipWith_cons_cons, hx]
  refine ⟨⟨h1, h2, h3, h4, q', en, cl, rfl, k2, k3, ?_, h9⟩, inVs_G es xs ents h10 hr.2.2 fun e he => hg e (mN he)⟩
  rw [k4 q (by rw [Z20e hr.2.1]; exact h5)]
  exact h8
 | [], _ :: _, _, h, _, _ => h.elim
 | _ :: _, [], _, h, _, _ => h.elim
 | [], [], _ :: _, _, hr, _ => by simp [Z39] at hr
 | _ :: _, _ :: _, [], _, hr, _ => by simp [Z39] at hr
end Go.Eng
end
section
namespace Go.Proofs
open Go.Shelf
def Tryz.clone66_ren : Go.Shelf.Ren := ⟨fun | 5 => 43 | 7 => 64 | n => n, fun | 23 => 81 | 25 => 9 | 3 => 2 | 4 => 4 | 20 => 20 | n => n, fun | n => n⟩
theorem Tryz.clone66 : Go.Proofs.SlLaysW.n5 Tryz.prog Tryz.clone66_ren := {
 mixed := by kernel_rfl
 f5 := ⟨Tryz.f43.name, by decide, Tryz.func43.trans (congrArg some (by kernel_rfl))⟩
 f7 := Tryz.func64.trans (congrArg some (by kernel_rfl))
 t4 := Tryz.underlying4
 a4 := Tryz.isAgg4
 z4 := Tryz.sizeOf4
 v4 := Tryz.zeroValue4
 t20 := Tryz.underlying20
 a20 := Tryz.isAgg20
 z20 := Tryz.sizeOf20
 v20 := Tryz.zeroValue20
 t23 := Tryz.underlying81
 a23 := Tryz.isAgg81
 z23 := Tryz.sizeOf81
 v23 := Tryz.zeroValue81 }
def Tryz.clone67_ren : Go.Shelf.Ren := ⟨fun | 5 => 44 | 7 => 64 | n => n, fun | 23 => 83 | 25 => 9 | 3 => 91 | 4 => 4 | 20 => 20 | n => n, fun | n => n⟩
theorem Tryz.clone67 : Go.Proofs.SlLaysW.n5 Tryz.prog Tryz.clone67_ren := {
 mixed := by kernel_rfl
 f5 := ⟨Tryz.f44.name, by decide, Tryz.func44.trans (congrArg some (by kernel_rfl))⟩
 f7 := Tryz.func64.trans (congrArg some (by kernel_rfl))
 t4 := Tryz.underlying4
 a4 := Tryz.isAgg4
 z4 := Tryz.sizeOf4
 v4 := Tryz.zeroValue4
 t20 := Tryz.underlying20
 a20 := Tryz.isAgg20
 z20 := Tryz.sizeOf20
 v20 := Tryz.zeroValue20
 t23 := Tryz.underlying83
 a23 := Tryz.isAgg83
 z23 := Tryz.sizeOf83
 v23 := Tryz.zeroValue83 }
def Tryz.clone68_ren : Go.Shelf.Ren := ⟨fun | 5 => 45 | 7 => 64 | n => n, fun | 23 => 84 | 25 => 9 | 3 => 94 | 4 => 4 | 20 => 20 | n => n, fun | n => n⟩
theorem Tryz.clone68 : Go.Proofs.SlLaysW.n5 Tryz.prog Tryz.clone68_ren := {
 mixed := by kernel_rfl
 f5 := ⟨Tryz.f45.name, by decide, Tryz.func45.trans (congrArg some (by kernel_rfl))⟩
 f7 := Tryz.func64.trans (congrArg some (by kernel_rfl))
 t4 := Tryz.underlying4
 a4 := Tryz.isAgg4
 z4 := Tryz.sizeOf4
 v4 := Tryz.zeroValue4
 t20 := Tryz.underlying20
 a20 := Tryz.isAgg20
 z20 := Tryz.sizeOf20
 v20 := Tryz.zeroValue20
 t23 := Tryz.underlying84
 a23 := Tryz.isAgg84
 z23 := Tryz.sizeOf84
 v23 := Tryz.zeroValue84 }
def Tryz.clone69_ren : Go.Shelf.Ren := ⟨fun | 5 => 46 | 7 => 64 | n => n, fun | 23 => 85 | 25 => 97 | 3 => 99 | 4 => 4 | 20 => 20 | n => n, fun | n => n⟩
theorem Tryz.clone69 : Go.Proofs.SlLaysW.n5 Tryz.prog Tryz.clone69_ren := {
 mixed := by kernel_rfl
 f5 := ⟨Tryz.f46.name, by decide, Tryz.func46.trans (congrArg some (by kernel_rfl))⟩
 f7 := Tryz.func64.trans (congrArg some (by kernel_rfl))
 t4 := Tryz.underlying4
 a4 := Tryz.isAgg4
 z4 := Tryz.sizeOf4
 v4 := Tryz.zeroValue4
 t20 := Tryz.underlying20
 a20 := Tryz.isAgg20
 z20 := Tryz.sizeOf20
 v20 := Tryz.zeroValue20
 t23 := Tryz.underlying85
 a23 := Tryz.isAgg85
 z23 := Tryz.sizeOf85
 v23 := Tryz.zeroValue85 }
def Tryz.clone70_ren : Go.Shelf.Ren := ⟨fun | 5 => 47 | 7 => 64 | n => n, fun | 23 => 89 | 25 => 9 | 3 => 4 | 4 => 4 | 20 => 20 | n => n, fun | n => n⟩
theorem Tryz.clone70 : Go.Proofs.SlLaysW.n5 Tryz.prog Tryz.clone70_ren := {
 mixed := by kernel_rfl
 f5 := ⟨Tryz.f47.name, by decide, Tryz.func47.trans (congrArg some (by kernel_rfl))⟩
 f7 := Tryz.func64.trans (congrArg some (by kernel_rfl))
 t4 := Tryz.underlying4
 a4 := Tryz.isAgg4
 z4 := Tryz.sizeOf4
 v4 := Tryz.zeroValue4
 t20 := Tryz.underlying20
 a20 := Tryz.isAgg20
 z20 := Tryz.sizeOf20
 v20 := Tryz.zeroValue20
 t23 := Tryz.underlying89
 a23 := Tryz.isAgg89
 z23 := Tryz.sizeOf89
 v23 := Tryz.zeroValue89 }
end Go.Proofs
end
section
set_option maxRecDepth 100000
namespace Go.Proofs.YtkledlcmhbjadaaGreat
open Go Go.Eng
open Go.RowKit (Below)
open Go.ChangeMaps (setBlock)

theorem inVs_spot {own : Nat → Option Nat} {M : Mem} {w : World} {id r : Nat} : ∀ {es : LB} {xs : List (BA × XDv)} {ents : List MapEntry}, inVs own M w id r es xs → Z39 M .str .dv xs ents →
  ∀ e ∈ ents, ∃ q en cl, Z1d4 e.val = some q ∧ w.heap[q]? = some (.map en cl)
 | v :: es, x :: xs, e :: ents, h, hr, e', he => by
  simp only [Z39] at hr
  obtain ⟨⟨_, _, _, _, q, en, cl, h5, _, _, h8, _⟩, h10⟩ := h
  rcases List.mem_cons.1 he with rfl | he
  · exact ⟨q, en, cl, by rw [Z20e hr.2.1]; exact h5, h8⟩
  · exact inVs_spot h10 hr.2.2 e' he
 | [], [], [], _, _, _, he => by cases he
 | [], _ :: _, _, h, _, _, _ => h.elim
 | _ :: _, [], _, h, _, _, _ => h.elim
 | [], [], _ :: _, _, hr, _, _ => by simp [Z39] at hr
 | _ :: _, _ :: _, [], _, hr, _, _ => by simp [Z39] at hr

theorem cell_alloc {w : World} {a : Addr} {v : Value} (h : w.cell? a = some v) (o : Obj) : (w.alloc o).cell? a = some v := by
 rw [World.cell?_alloc_lt _ _ _ (World.block_lt_of_cell? w _ h)]
 exact h
theorem Z56 {w : World} {k : Nat} {x : Obj} (h : w.heap[k]? = some x) (o : Obj) : (w.alloc o).heap[k]? = some x := by
 rw [Below.heap_alloc _ _ _ (Array.getElem?_eq_some_iff.1 h).1]
 exact h
theorem Z103 {w : World} {n : Nat} (h : w.heap.size = n) (o : Obj) : (w.alloc o).heap[n]? = some o := by rw [← h]; exact heap_alloc_new w o
theorem fk_world (w : World) (o0 o1 o2 o3 o4 : Obj) {W : World} (h : W = (((((w.alloc o0).alloc o1).alloc o2).alloc o3).alloc o4).drew) :
  W.heap.size = w.heap.size + 5 ∧ Below w.heap.size w W ∧ W.heap[w.heap.size]? = some o0 ∧ W.heap[w.heap.size + 1]? = some o1 ∧ W.heap[w.heap.size + 2]? = some o2 ∧ W.heap[w.heap.size + 3]? = some o3 ∧ W.heap[w.heap.size + 4]? = some o4 := by
 subst h
 refine ⟨by simp, ((((((Below.refl _ w).alloc (Nat.le_refl _) _).alloc (by simp) _).alloc (by simp; omega) _).alloc (by simp; omega) _).alloc (by simp; omega) _).drew, ?_, ?_, ?_, ?_, ?_⟩
 · exact Z56 (Z56 (Z56 (Z56 (Z103 rfl o0) o1) o2) o3) o4
 · exact Z56 (Z56 (Z56 (Z103 (by simp) o1) o2) o3) o4
 · exact Z56 (Z56 (Z103 (by simp) o2) o3) o4
 · exact Z56 (Z103 (by simp) o3) o4
 · exact Z103 (by simp) o4
structure FkInv (w : World) (N : Nat) (eR eV eS eP : Array MapEntry) (cR cV cS cP : Nat) (g : Nat → Option Nat) (seen : Array Nat) (c : Nat) (wr : World) : Prop where
 size : N + 6 ≤ wr.heap.size
 below : Below N w wr
 bR : wr.heap[N]? = some (.map eR cR)
 bV : wr.heap[N + 1]? = some (.map (eV.map (eG g)) cV)
 bS : wr.heap[N + 2]? = some (.map eS cS)
 bP : wr.heap[N + 3]? = some (.map eP cP)
 bD : wr.heap[N + 4]? = some (.cells ⟨[.map (some N), .map (some (N + 1)), .map (some (N + 2)), .map (some (N + 3))]⟩ 87 (0, 0))
 bI : wr.heap[N + 5]? = some (.mapIter (some (N + 1)) cV seen c)
 hc : cV ≤ c
 hs : ∀ e ∈ eV.toList, seen.contains e.born = (g e.born).isSome
 hg : ∀ b q', g b = some q' → N + 5 < q' ∧ q' < wr.heap.size ∧ ∀ e ∈ eV.toList, e.born = b → ∀ q, Z1d4 e.val = some q → wr.heap[q']? = w.heap[q]?
 hi : ∀ a b q, g a = some q → g b = some q → a = b
def fkLeft (N : Nat) (wr : World) : Nat := match wr.heap[N + 5]?, wr.heap[N + 1]? with
 | some (.mapIter _ _ seen _), some (.map es _) => (leftOf es seen).size
 | _, _ => 0
section
variable {w wr : World} {N : Nat} {eR eV eS eP : Array MapEntry} {cR cV cS cP : Nat} {g : Nat → Option Nat} {seen : Array Nat} {c : Nat}
theorem FkInv.start {W : World} (hst : MapKept.Stamped eV cV) (hs : W.heap.size = w.heap.size + 5) (hb : Below w.heap.size w W) (b0 : W.heap[w.heap.size]? = some (.map eR cR)) (b1 : W.heap[w.heap.size + 1]? = some (.map eV cV)) (b2 : W.heap[w.heap.size + 2]? = some (.map eS cS)) (b3 : W.heap[w.heap.size + 3]? = some (.map eP cP))
  (b4 : W.heap[w.heap.size + 4]? = some (.cells ⟨[.map (some w.heap.size), .map (some (w.heap.size + 1)), .map (some (w.heap.size + 2)), .map (some (w.heap.size + 3))]⟩ 87 (0, 0))) :
  FkInv w w.heap.size eR eV eS eP cR cV cS cP (fun _ => none) #[] cV (W.alloc (.mapIter (some (w.heap.size + 1)) cV #[] cV)) := by
 have he : eV.map (eG fun _ => none) = eV := by
  have : (eG fun _ => none) = id := by funext e; exact eG_none rfl
  rw [this, Array.map_id]
 refine ⟨by simp [hs], hb.alloc (by omega) _, Z56 b0 _, by rw [he]; exact Z56 b1 _, Z56 b2 _, Z56 b3 _, Z56 b4 _, Z103 hs _, Nat.le_refl _, fun e _ => by simp, (fun b q' h => by cases h), (fun a b q h => by cases h)⟩
theorem rep_of_mem {M : Mem} : ∀ {xs : List (BA × XDv)} {es : List MapEntry}, Z39 M .str .dv xs es → ∀ e ∈ es, ∃ x ∈ xs, repV M .str x.1 e.key ∧ repV M .dv x.2 e.val
 | x :: xs, e :: es, h, e', he => by
  simp only [Z39] at h
  rcases List.mem_cons.1 he with rfl | he
  · exact ⟨x, mS, h.1, h.2.1⟩
  · obtain ⟨y, h1, h2⟩ := rep_of_mem h.2.2 e' he
    exact ⟨y, mN h1, h2⟩
 | [], [], _, _, he => by cases he
 | [], _ :: _, h, _, _ => by simp [Z39] at h
 | _ :: _, [], h, _, _ => by simp [Z39] at h
theorem FkInv.left (h : FkInv w N eR eV eS eP cR cV cS cP g seen c wr) : fkLeft N wr = (leftOf eV seen).size := by
 unfold fkLeft
 rw [h.bI, h.bV]
 exact left_G g eV seen
theorem FkInv.entry (h : FkInv w N eR eV eS eP cR cV cS cP g seen c wr) {e : MapEntry} (he : e ∈ (leftOf (eV.map (eG g)) seen).toList) : e ∈ eV.toList ∧ g e.born = none ∧ e ∈ (leftOf eV seen).toList ∧ e ∈ (eV.map (eG g)).toList := by
 obtain ⟨h1, h2⟩ := mem_left he
 have h1' := h1
 rw [Array.toList_map] at h1
 obtain ⟨e0, h3, rfl⟩ := List.mem_map.1 h1
 rw [eG_born] at h2
 have hn : g e0.born = none := by
  have := h.hs e0 h3
  rw [h2] at this
  cases hg : g e0.born with
  | none => rfl
  | some q => rw [hg] at this; cases this
 rw [eG_none hn] at h1' ⊢
 refine ⟨h3, hn, ?_, h1'⟩
 unfold leftOf
 simp only [Array.toList_filter, List.mem_filter]
 exact ⟨h3, by rw [h2]; rfl⟩
theorem FkInv.step (h : FkInv w N eR eV eS eP cR cV cS cP g seen c wr) (hst : MapKept.Stamped eV cV) {e : MapEntry} (he : e ∈ eV.toList) (hn : g e.born = none) {q : Nat} (hq : Z1d4 e.val = some q) {w' : World} {q' : Nat} (hq' : wr.heap.size ≤ q') (hlt : q' < w'.heap.size)
  (os : w'.os = wr.os) (tape : w'.tape = wr.tape) (output : w'.output = wr.output) (hold : ∀ k, k < wr.heap.size → k ≠ N + 5 → k ≠ N + 1 → w'.heap[k]? = wr.heap[k]?)
  (hI : w'.heap[N + 5]? = some (.mapIter (some (N + 1)) cV (seen.push e.born) cV)) (hV : w'.heap[N + 1]? = some (.map (eV.map (eG fun b => if b = e.born then some q' else g b)) cV)) (hnew : w'.heap[q']? = w.heap[q]?) :
  FkInv w N eR eV eS eP cR cV cS cP (fun b => if b = e.born then some q' else g b) (seen.push e.born) cV w' := by
 have hsz := h.size
 refine ⟨by omega, ⟨os.trans h.below.os, tape.trans h.below.tape, output.trans h.below.output, by have := h.below.size; omega, fun k hk => (hold k (by omega) (by omega) (by omega)).trans (h.below.block k hk)⟩,
  (hold _ (by omega) (by omega) (by omega)).trans h.bR, hV, (hold _ (by omega) (by omega) (by omega)).trans h.bS, (hold _ (by omega) (by omega) (by omega)).trans h.bP, (hold _ (by omega) (by omega) (by omega)).trans h.bD, hI, Nat.le_refl _, ?_, ?_, ?_⟩
 · intro x hx
   by_cases hb : x.born = e.born
   · simp only [if_pos hb, Option.isSome_some, hb]
     simp
   · simp only [if_neg hb]
     rw [← h.hs x hx]
     simp [hb]
 · intro b p hp
   by_cases hb : b = e.born
   · simp only [if_pos hb, Option.some.injEq] at hp
     subst hp
     refine ⟨by omega, hlt, fun x hx hxb q0 hq0 => ?_⟩
     have : x = e := Z130 hst.2.1 x hx e he (hxb.trans hb)
     subst this
     rw [hq] at hq0
     injection hq0 with hq0
     subst hq0
     exact hnew
   · simp only [if_neg hb] at hp
     obtain ⟨k1, k2, k3⟩ := h.hg b p hp
     refine ⟨k1, by omega, fun x hx hxb q0 hq0 => ?_⟩
     rw [hold p k2 (by omega) (by omega)]
     exact k3 x hx hxb q0 hq0
 · intro a b p ha hb
   by_cases h1 : a = e.born <;> by_cases h2 : b = e.born
   · rw [h1, h2]
   · simp only [if_pos h1, if_neg h2, Option.some.injEq] at ha hb
     subst ha
     have := (h.hg b _ hb).2.1
     omega
   · simp only [if_neg h1, if_pos h2, Option.some.injEq] at ha hb
     subst hb
     have := (h.hg a _ ha).2.1
     omega
   · simp only [if_neg h1, if_neg h2] at ha hb
     exact h.hi a b p ha hb
theorem FkInv.done (h : FkInv w N eR eV eS eP cR cV cS cP g seen c wr) (h0 : (leftOf (eV.map (eG g)) seen).size = 0) : ∀ e ∈ eV.toList, ∃ q', g e.born = some q' ∧ N + 4 < q' ∧ q' < wr.heap.size ∧ ∀ q, Z1d4 e.val = some q → wr.heap[q']? = w.heap[q]? := by
 intro e he
 have hall := all_seen eV seen (by rw [← left_G g]; exact h0) e he
 rw [h.hs e he] at hall
 obtain ⟨q', hq'⟩ := Option.isSome_iff_exists.1 hall
 obtain ⟨k1, k2, k3⟩ := h.hg _ _ hq'
 exact ⟨q', hq', by omega, k2, fun q hq => k3 e he rfl q hq⟩
end
end Go.Proofs.YtkledlcmhbjadaaGreat
end
section
set_option maxRecDepth 100000
namespace Go.Proofs.YtkledlcmhbjadaaGreat
open Go Go.Eng
open Go.RowKit (Below)
open Go.ChangeMaps (setBlock)
set_option maxHeartbeats 4000000 in
theorem fork_raw (w : World) {rD rR rV rS rP : Nat} {eR eV eS eP : Array MapEntry} {cR cV cS cP : Nat}
  (hD : w.heap[rD]? = some (.cells ⟨[.map (some rR), .map (some rV), .map (some rS), .map (some rP)]⟩ 87 (0, 0)))
  (hR : w.heap[rR]? = some (.map eR cR)) (hV : w.heap[rV]? = some (.map eV cV)) (hS : w.heap[rS]? = some (.map eS cS)) (hP : w.heap[rP]? = some (.map eP cP))
  (M : Mem) (xs : List (BA × XDv)) (hx : Z39 M .str .dv xs eV.toList) (hst : MapKept.Stamped eV cV) (hin : ∀ e ∈ eV.toList, ∃ q en cl, Z1d4 e.val = some q ∧ w.heap[q]? = some (.map en cl)) :
  Calls Tryz.prog 22 #[.pointer (some ⟨rD, 0, none⟩)] w fun e w' => e = .returned (.pointer (some ⟨w.heap.size + 4, 0, none⟩)) ∧ Below w.heap.size w w' ∧
   w'.heap[w.heap.size]? = some (.map eR cR) ∧ w'.heap[w.heap.size + 2]? = some (.map eS cS) ∧ w'.heap[w.heap.size + 3]? = some (.map eP cP) ∧
   w'.heap[w.heap.size + 4]? = some (.cells ⟨[.map (some w.heap.size), .map (some (w.heap.size + 1)), .map (some (w.heap.size + 2)), .map (some (w.heap.size + 3))]⟩ 87 (0, 0)) ∧
   ∃ g : Nat → Option Nat, w'.heap[w.heap.size + 1]? = some (.map (eV.map (eG g)) cV) ∧
    (∀ e ∈ eV.toList, ∃ q', g e.born = some q' ∧ w.heap.size + 4 < q' ∧ q' < w'.heap.size ∧ ∀ q, Z1d4 e.val = some q → w'.heap[q']? = w.heap[q]?) ∧ ∀ a b q, g a = some q → g b = some q → a = b := by
 have d0 : w.cell? ⟨rD, 0, none⟩ = some (.map (some rR)) := by simp [World.cell?, hD]
 have d1 : w.cell? ⟨rD, 1, none⟩ = some (.map (some rV)) := by simp [World.cell?, hD]
 have d2 : w.cell? ⟨rD, 2, none⟩ = some (.map (some rS)) := by simp [World.cell?, hD]
 have d3 : w.cell? ⟨rD, 3, none⟩ = some (.map (some rP)) := by simp [World.cell?, hD]
 go_enter Tryz.func22, Tryz.ntmps22
 go_wp2
 go_region_held3 (fun w' => w'.cell? ⟨rD, 0, none⟩ = some (.map (some rR)) ∧ w'.cell? ⟨rD, 1, none⟩ = some (.map (some rV)) ∧ w'.cell? ⟨rD, 2, none⟩ = some (.map (some rS)) ∧ w'.cell? ⟨rD, 3, none⟩ = some (.map (some rP)) ∧
   w'.heap[rR]? = some (.map eR cR) ∧ w'.heap[rV]? = some (.map eV cV) ∧ w'.heap[rS]? = some (.map eS cS) ∧ w'.heap[rP]? = some (.map eP cP))
  ((try refine ⟨?_, ?_, ?_, ?_, ?_, ?_, ?_, ?_⟩) <;> (repeat (first | assumption | rw [World.cell?_drew] | refine cell_alloc ?_ _ | refine Z56 ?_ _)))
  (first
    | (go_at_call 43; refine (AnyW.maps_Clone Tryz.clone66 rR eR cR _ ?_).mono ?_; (simp [*]); rintro e w' ⟨rfl, rfl⟩)
    | (go_at_call 44; refine (AnyW.maps_Clone Tryz.clone67 rV eV cV _ ?_).mono ?_; (simp [*]); rintro e w' ⟨rfl, rfl⟩)
    | (go_at_call 45; refine (AnyW.maps_Clone Tryz.clone68 rS eS cS _ ?_).mono ?_; (simp [*]); rintro e w' ⟨rfl, rfl⟩)
    | (go_at_call 46; refine (AnyW.maps_Clone Tryz.clone69 rP eP cP _ ?_).mono ?_; (simp [*]); rintro e w' ⟨rfl, rfl⟩))
 obtain ⟨W, hW⟩ : ∃ W : World, W = (((((w.alloc (Obj.map eR cR)).alloc (Obj.map eV cV)).alloc (Obj.map eS cS)).alloc (Obj.map eP cP)).alloc
       (Obj.cells #[Value.map (some w.heap.size), Value.map (some (w.heap.size + 1)), Value.map (some (w.heap.size + 1 + 1)), Value.map (some (w.heap.size + 1 + 1 + 1))] 87)).drew := ⟨_, rfl⟩
 rw [← hW]
 obtain ⟨hWs, hWb, b0, b1, b2, b3, b4⟩ := fk_world w _ _ _ _ _ hW
 clear hW
 have c1 : W.cell? ⟨w.heap.size + 1 + 1 + 1 + 1, 1, none⟩ = some (.map (some (w.heap.size + 1))) := by
  show W.cell? ⟨w.heap.size + 4, 1, none⟩ = _
  simp [World.cell?, b4]
 have hrg := run_range_map (P := Tryz.prog) W 83 _ _ (w.heap.size + 1) eV cV Tryz.underlying83 b1
 rw [hWs] at hrg
 go_wp2
 go_loopw [] (fun wr => ∃ (g : Nat → Option Nat) (seen : Array Nat) (c : Nat), FkInv w w.heap.size eR eV eS eP cR cV cS cP g seen c wr) (fun wr => fkLeft w.heap.size wr)
 case atStart => exact ⟨_, _, _, FkInv.start hst hWs hWb b0 b1 b2 b3 b4⟩
 case round =>
  obtain ⟨g, seen, c, hI⟩ := hrel
  have hsz := hI.size
  have hnx := run_next_at (P := Tryz.prog) wr 0 (w.heap.size + 5) (w.heap.size + 1) cV c seen (eV.map (eG g)) cV hI.bI hI.bV (Z1d2 g hst).1 hI.hc
  rcases hnx with ⟨h0, hrun⟩ | ⟨e, he, w1, hw1, hrun⟩
  · go_wp2
    go_ret
    refine ⟨rfl, hI.below, hI.bR, hI.bS, hI.bP, hI.bD, g, hI.bV, hI.done h0, hI.hi⟩
  · obtain ⟨heV, hgn, hel, heG⟩ := hI.entry he
    obtain ⟨x, hxm, hk, hv⟩ := rep_of_mem hx e heV
    have hek : e.key = .string x.1 := Zb6 hk
    have hev := repV_dv hv
    obtain ⟨q, en, cl, hq, hqw⟩ := hin e heV
    have hqs : x.2.spot = some q := by rw [← Z20e hv]; exact hq
    rw [hqs] at hev
    obtain ⟨w2, hw2⟩ : ∃ w2, w2 = setBlock w1 (w.heap.size + 5) (.mapIter (some (w.heap.size + 1)) cV (seen.push e.born) cV) := ⟨_, rfl⟩
    rw [← hw2] at hrun
    have h1h : w1.heap = wr.heap := by rcases hw1 with rfl | rfl <;> rfl
    have f1 : w2.heap.size = wr.heap.size := by rw [hw2]; simp [setBlock, h1h]
    have f2 : w2.heap[w.heap.size + 5]? = some (.mapIter (some (w.heap.size + 1)) cV (seen.push e.born) cV) := by rw [hw2]; simp [setBlock, h1h, show w.heap.size + 5 < wr.heap.size by omega]
    have f3 : ∀ k, k ≠ w.heap.size + 5 → w2.heap[k]? = wr.heap[k]? := fun k hk => by rw [hw2]; simp only [setBlock, h1h]; exact Array.getElem?_setIfInBounds_ne (Ne.symm hk)
    have f4 : w2.os = wr.os ∧ w2.tape = wr.tape ∧ w2.output = wr.output := by rw [hw2]; rcases hw1 with rfl | rfl <;> exact ⟨rfl, rfl, rfl⟩
    clear hw2 hw1 h1h
    have hen := run_entry_at (P := Tryz.prog) w2 (w.heap.size + 5) (w.heap.size + 1) cV seen (eV.map (eG g)) cV e f2 ((f3 _ (by omega)).trans hI.bV) heG (Z1d2 g hst).2.1
    rw [hek, hev] at hrun hen
    have hqN : q < w.heap.size := (Array.getElem?_eq_some_iff.1 hqw).1
    have hq2 : w2.heap[q]? = some (.map en cl) := ((f3 q (by omega)).trans (hI.below.block q hqN)).trans hqw
    go_wp2_with (first
     | (go_at_call 47; refine (AnyW.maps_Clone Tryz.clone70 q en cl _ (Z56 hq2 _)).mono ?_; rintro _ _ ⟨rfl, rfl⟩)
     | go_in)
    obtain ⟨W5, hW5⟩ : ∃ W5 : World, W5 = (w2.alloc (Obj.cells #[Value.int IntKind.i64 x.snd.size, Value.string x.snd.zone, Value.int IntKind.u64 x.snd.tag, Value.map (some (wr.heap.size + 1))] 91)).alloc (Obj.map en cl) := ⟨_, rfl⟩
    rw [← hW5]
    have k1 : W5.heap.size = wr.heap.size + 2 := by rw [hW5]; simp [f1]
    have k2 : W5.heap[wr.heap.size]? = some (Obj.cells #[Value.int IntKind.i64 x.snd.size, Value.string x.snd.zone, Value.int IntKind.u64 x.snd.tag, Value.map (some (wr.heap.size + 1))] 91) := by rw [hW5]; exact Z56 (Z103 f1 _) _
    have k3 : W5.heap[wr.heap.size + 1]? = some (.map en cl) := by rw [hW5]; exact Z103 (by simp [f1]) _
    have k4 : ∀ k, k < wr.heap.size → W5.heap[k]? = w2.heap[k]? := fun k hk => by
     rw [hW5, Below.heap_alloc _ _ _ (by simp [f1]; omega), Below.heap_alloc _ _ _ (by omega)]
    have k5 : W5.os = wr.os ∧ W5.tape = wr.tape ∧ W5.output = wr.output := by rw [hW5]; exact f4
    clear hW5
    have m0 : W5.cell? ⟨wr.heap.size, 0, none⟩ = some (.int .i64 x.snd.size) := by simp [World.cell?, k2]
    have m1 : W5.cell? ⟨wr.heap.size, 1, none⟩ = some (.string x.snd.zone) := by simp [World.cell?, k2]
    have m2 : W5.cell? ⟨wr.heap.size, 2, none⟩ = some (.int .u64 x.snd.tag) := by simp [World.cell?, k2]
    have m3 : W5.cell? ⟨wr.heap.size, 3, none⟩ = some (.map (some (wr.heap.size + 1))) := by simp [World.cell?, k2]
    have mD : W5.cell? ⟨w.heap.size + 1 + 1 + 1 + 1, 1, none⟩ = some (.map (some (w.heap.size + 1))) := by
     show W5.cell? ⟨w.heap.size + 4, 1, none⟩ = _
     simp [World.cell?, k4 (w.heap.size + 4) (by omega), f3 (w.heap.size + 4) (by omega), hI.bD]
    refine wp_region_still_tail 6 (by kernel_rfl) (by kernel_rfl) ?_
    generalize hW6 : ({ W5 with drawn := W5.drawn + 1 } : World) = W6
    have hd : W6 = W5.drew := hW6.symm
    have hh : W6.heap = W5.heap := by rw [hd]; rfl
    have n5 : W6.os = wr.os ∧ W6.tape = wr.tape ∧ W6.output = wr.output := by rw [hd]; exact k5
    have n0 : W6.cell? ⟨wr.heap.size, 0, none⟩ = some (.int .i64 x.snd.size) := by rw [hd, World.cell?_drew]; exact m0
    have n1 : W6.cell? ⟨wr.heap.size, 1, none⟩ = some (.string x.snd.zone) := by rw [hd, World.cell?_drew]; exact m1
    have n2 : W6.cell? ⟨wr.heap.size, 2, none⟩ = some (.int .u64 x.snd.tag) := by rw [hd, World.cell?_drew]; exact m2
    have n3 : W6.cell? ⟨wr.heap.size, 3, none⟩ = some (.map (some (wr.heap.size + 1))) := by rw [hd, World.cell?_drew]; exact m3
    have nD : W6.cell? ⟨w.heap.size + 1 + 1 + 1 + 1, 1, none⟩ = some (.map (some (w.heap.size + 1))) := by rw [hd, World.cell?_drew]; exact mD
    clear hW6 hd m0 m1 m2 m3 mD
    simp only [List.take_succ_cons, List.take_zero, List.drop_succ_cons, List.drop_zero]
    repeat still_step
    refine wpStill_nil ?_
    have hV6 : W6.heap[w.heap.size + 1]? = some (.map (eV.map (eG g)) cV) := by rw [hh, k4 _ (by omega), f3 _ (by omega)]; exact hI.bV
    obtain ⟨j, hj, hup⟩ := update_there (P := Tryz.prog) (M := M) (w := W6) (kt := 9) (et := 91) (ty := 83) hV6 (by rw [Array.toList_map]; exact repEs_G g xs _ hx) (Z1d2 g hst) Tryz.underlying83 (by kernel_rfl) (Zce x.1) (dv_repV { x.2 with spot := some (wr.heap.size + 1) }) heG hek
    rw [modify_G (q := wr.heap.size + 1) hst hj hgn hek (by rw [hev]; rfl)] at hup
    go_wp2
    have hne : ∀ (k : Nat) (o : Obj), k ≠ w.heap.size + 1 → (W5.heap.setIfInBounds (w.heap.size + 1) o)[k]? = W5.heap[k]? := fun k o hk => Array.getElem?_setIfInBounds_ne (Ne.symm hk)
    have hfin := hI.step (e := e) (q := q) (q' := wr.heap.size + 1) (w' := { heap := W5.heap.setIfInBounds (w.heap.size + 1) (Obj.map (Array.map (eG fun b => if b = e.born then some (wr.heap.size + 1) else g b) eV) cV), tape := wr.tape, drawn := W6.drawn, os := wr.os, output := wr.output })
     hst heV hgn hq (by omega) (by simp [k1]) rfl rfl rfl
     (fun k h1 h2 h3 => by show (W5.heap.setIfInBounds _ _)[k]? = _; rw [hne k _ h3, k4 k h1, f3 k h2])
     (by show (W5.heap.setIfInBounds _ _)[_]? = _; rw [hne _ _ (by omega), k4 _ (by omega)]; exact f2)
     (by show (W5.heap.setIfInBounds _ _)[_]? = _; simp [show w.heap.size + 1 < W5.heap.size by omega])
     (by show (W5.heap.setIfInBounds _ _)[_]? = _; rw [hne _ _ (by omega), k3]; exact hqw.symm)
    refine ⟨⟨_, _, _, hfin⟩, ?_⟩
    rw [hfin.left, hI.left]
    exact left_shrinks eV seen e hel
end Go.Proofs.YtkledlcmhbjadaaGreat
end
section
set_option maxRecDepth 100000
namespace Go.Proofs.YtkledlcmhbjadaaGreat
open Go Go.Eng
open Go.RowKit (Below)

def Z223 (ρ : Go.Eng.Loc) (nid N S : Nat) : Go.Eng.Loc :=
 ⟨fun i => if i = nid then some (.blk (N + 4)) else if i = nid + 1 then some (.blk N) else if i = nid + 2 then some (.blk (N + 1)) else if i = nid + 3 then some (.blk (N + 2)) else if i = nid + 4 then some (.blk (N + 3)) else ρ i,
  fun r => if r < N then ρ.own r else if S ≤ r then none else if r = N then some (nid + 1) else if r = N + 2 then some (nid + 3) else if r = N + 3 then some (nid + 4) else if r = N + 4 then some nid else some (nid + 2)⟩
theorem fk_le {ρ : Go.Eng.Loc} {nid N S : Nat} (h : ∀ k, k < 5 → ρ (nid + k) = none) : ρ.le (Z223 ρ nid N S) := by
 intro i r hr
 have hne : ∀ k, k < 5 → i ≠ nid + k := fun k hk e => by subst e; rw [h k hk] at hr; cases hr
 show (if i = nid then _ else _) = _
 rw [if_neg (show i ≠ nid from hne 0 (by omega)), if_neg (hne 1 (by omega)), if_neg (hne 2 (by omega)), if_neg (hne 3 (by omega)), if_neg (hne 4 (by omega))]
 exact hr
def Zd8 (i0 i1 i2 i3 i4 nid : Nat) (a1 : LA) (a2 : LB) (a3 : LC) (a4 : LD) : Eff :=
 [(i0, .cells 87 [.map i1, .map i2, .map i3, .map i4]), (i1, .map ⟨.str, .int .i64, a1⟩), (i2, .vols a2 none), (i3, .map ⟨.str, .sn, a3⟩), (i4, .map ⟨.tgt, .done, a4⟩),
  (nid, .cells 87 [.map (nid + 1), .map (nid + 2), .map (nid + 3), .map (nid + 4)]), (nid + 1, .map ⟨.str, .int .i64, a1⟩), (nid + 2, .vols a2 none), (nid + 3, .map ⟨.str, .sn, a3⟩), (nid + 4, .map ⟨.tgt, .done, a4⟩)]
theorem fork_K {hr : List AObj} {i0 i1 i2 i3 i4 nid : Nat} {a1 : LA} {a2 : LB} {a3 : LC} {a4 : LD}
  (h0 : hget hr i0 = .cells 87 [.map i1, .map i2, .map i3, .map i4]) (h1 : hget hr i1 = .map ⟨.str, .int .i64, a1⟩) (h2 : hget hr i2 = .vols a2 none) (h3 : hget hr i3 = .map ⟨.str, .sn, a3⟩) (h4 : hget hr i4 = .map ⟨.tgt, .done, a4⟩) :
  Za9 Tryz.prog 22 [.ptr i0 0] hr nid (.ptr nid 0) (Zd8 i0 i1 i2 i3 i4 nid a1 a2 a3 a4) := by
 intro B w0 M0 h w ρ M vs H hag hfree hrep
 have k0 : hget h i0 = .cells 87 [.map i1, .map i2, .map i3, .map i4] := by rw [hag i0 (by rw [h0]; simp), h0]
 have k1 : hget h i1 = .map ⟨.str, .int .i64, a1⟩ := by rw [hag i1 (by rw [h1]; simp), h1]
 have k2 : hget h i2 = .vols a2 none := by rw [hag i2 (by rw [h2]; simp), h2]
 have k3 : hget h i3 = .map ⟨.str, .sn, a3⟩ := by rw [hag i3 (by rw [h3]; simp), h3]
 have k4 : hget h i4 = .map ⟨.tgt, .done, a4⟩ := by rw [hag i4 (by rw [h4]; simp), h4]
 have hnew : ∀ k, k < 5 → ρ (nid + k) = none := fun k hk => by
  match k, hk with
  | 0, _ => exact hfree (nid, .cells 87 [.map (nid + 1), .map (nid + 2), .map (nid + 3), .map (nid + 4)]) (by simp [Zd8]) (Nat.le_refl _)
  | 1, _ => exact hfree (nid + 1, .map ⟨.str, .int .i64, a1⟩) (by simp [Zd8]) (Nat.le_add_right _ _)
  | 2, _ => exact hfree (nid + 2, .vols a2 none) (by simp [Zd8]) (Nat.le_add_right _ _)
  | 3, _ => exact hfree (nid + 3, .map ⟨.str, .sn, a3⟩) (by simp [Zd8]) (Nat.le_add_right _ _)
  | 4, _ => exact hfree (nid + 4, .map ⟨.tgt, .done, a4⟩) (by simp [Zd8]) (Nat.le_add_right _ _)
 have o0 := H.obj i0; rw [k0] at o0
 have o1 := H.obj i1; rw [k1] at o1
 have o2 := H.obj i2; rw [k2] at o2
 have o3 := H.obj i3; rw [k3] at o3
 have o4 := H.obj i4; rw [k4] at o4
 obtain ⟨rD, us, d1, d2, d3, d4, d5⟩ := o0
 obtain ⟨rR, eR, cR, r1, r2, r3, r4, r5⟩ := o1
 obtain ⟨rV, eV, cV, xs, v1, v2, v3, v4, v5, v6, v7, _⟩ := o2
 obtain ⟨rS, eS, cS, s1, s2, s3, s4, s5⟩ := o3
 obtain ⟨rP, eP, cP, p1, p2, p3, p4, p5⟩ := o4
 have hus : us = [.map (some rR), .map (some rV), .map (some rS), .map (some rP)] := by
  match us, d4 with
  | [u1, u2, u3, u4], d4 =>
   simp only [repL, rep] at d4
   obtain ⟨⟨q1, e1, rfl⟩, ⟨q2, e2, rfl⟩, ⟨q3, e3, rfl⟩, ⟨q4, e4, rfl⟩, _⟩ := d4
   rw [r1] at e1; rw [v1] at e2; rw [s1] at e3; rw [p1] at e4
   cases e1; cases e2; cases e3; cases e4
   rfl
 subst hus
 have hvs : vs = [.pointer (some ⟨rD, 0, none⟩)] := by
  match vs, hrep with
  | [u1], hrep =>
   simp only [repL, rep] at hrep
   obtain ⟨⟨q1, e1, rfl⟩, _⟩ := hrep
   rw [d1] at e1; cases e1
   rfl
 subst hvs
 have hspot : ∀ e ∈ eV.toList, ∃ q en cl, Z1d4 e.val = some q ∧ w.heap[q]? = some (.map en cl) := fun e he => by
  obtain ⟨q, en, cl, g1, g2⟩ := inVs_spot v6 v4 e he
  exact ⟨q, en, cl, g1, g2⟩
 refine (fork_raw w d3 r3 v3 s3 p3 M xs v4 v5 hspot).mono ?_
 rintro e w' ⟨rfl, hb, q1, q2, q3, q4, g, q5, q6, q7⟩
 have hN : w.heap.size + 4 < w'.heap.size := (Array.getElem?_eq_some_iff.1 q4).1
 have hle : ρ.le (Z223 ρ nid w.heap.size w'.heap.size) := fk_le hnew
 have hM : ∀ r off, w.heap.size ≤ r → M r off = none := fun r off hr => Mem.none_new H hr off
 refine ⟨_, Z223 ρ nid w.heap.size w'.heap.size, M, rfl, ⟨hle, fun i hi => ?_⟩, Mem.le_refl _, ?_, ?_⟩
 · have n0 := hi (nid, .cells 87 [.map (nid + 1), .map (nid + 2), .map (nid + 3), .map (nid + 4)]) (by simp [Zd8])
   have n1 := hi (nid + 1, .map ⟨.str, .int .i64, a1⟩) (by simp [Zd8])
   have n2 := hi (nid + 2, .vols a2 none) (by simp [Zd8])
   have n3 := hi (nid + 3, .map ⟨.str, .sn, a3⟩) (by simp [Zd8])
   have n4 := hi (nid + 4, .map ⟨.tgt, .done, a4⟩) (by simp [Zd8])
   show (if i = nid then _ else _) = _
   rw [if_neg (Ne.symm n0), if_neg (Ne.symm n1), if_neg (Ne.symm n2), if_neg (Ne.symm n3), if_neg (Ne.symm n4)]
 · refine H.adopt hb _ ⟨hle, fun i hi => ?_⟩ (fun r hr => if_pos hr) (fun r i hr hi => ?_) ?_
   · have n0 := hi (nid, .cells 87 [.map (nid + 1), .map (nid + 2), .map (nid + 3), .map (nid + 4)]) (by simp [Zd8])
     have n1 := hi (nid + 1, .map ⟨.str, .int .i64, a1⟩) (by simp [Zd8])
     have n2 := hi (nid + 2, .vols a2 none) (by simp [Zd8])
     have n3 := hi (nid + 3, .map ⟨.str, .sn, a3⟩) (by simp [Zd8])
     have n4 := hi (nid + 4, .map ⟨.tgt, .done, a4⟩) (by simp [Zd8])
     show (if i = nid then _ else _) = _
     rw [if_neg (Ne.symm n0), if_neg (Ne.symm n1), if_neg (Ne.symm n2), if_neg (Ne.symm n3), if_neg (Ne.symm n4)]
   · have hi : (if r < w.heap.size then ρ.own r else if w'.heap.size ≤ r then none else _) = some i := hi
     rw [if_neg (by omega)] at hi
     split at hi
     · cases hi
     · omega
   · have hown : ∀ r, w.heap.size ≤ r → r < w'.heap.size → (Z223 ρ nid w.heap.size w'.heap.size).own r = if r = w.heap.size then some (nid + 1) else if r = w.heap.size + 2 then some (nid + 3) else if r = w.heap.size + 3 then some (nid + 4) else if r = w.heap.size + 4 then some nid else some (nid + 2) := fun r g1 g2 => by
       show (if r < w.heap.size then ρ.own r else if w'.heap.size ≤ r then none else _) = _
       rw [if_neg (by omega), if_neg (by omega)]
     have l0 : Z223 ρ nid w.heap.size w'.heap.size nid = some (.blk (w.heap.size + 4)) := if_pos rfl
     have l1 : Z223 ρ nid w.heap.size w'.heap.size (nid + 1) = some (.blk w.heap.size) := by simp [Z223]
     have l2 : Z223 ρ nid w.heap.size w'.heap.size (nid + 2) = some (.blk (w.heap.size + 1)) := by simp [Z223]
     have l3 : Z223 ρ nid w.heap.size w'.heap.size (nid + 3) = some (.blk (w.heap.size + 2)) := by simp [Z223]
     have l4 : Z223 ρ nid w.heap.size w'.heap.size (nid + 4) = some (.blk (w.heap.size + 3)) := by simp [Z223]
     intro e he
     simp only [Zd8, List.mem_cons, List.not_mem_nil, or_false] at he
     rcases he with rfl | rfl | rfl | rfl | rfl | rfl | rfl | rfl | rfl | rfl
     · exact .inl k0
     · exact .inl k1
     · exact .inl k2
     · exact .inl k3
     · exact .inl k4
     · refine .inr ⟨w.heap.size + 4, _, l0, by rw [hown _ (by omega) (by omega)]; simp, q4, ?_, fun off => hM _ off (by omega)⟩
       simp only [repL, rep]
       exact ⟨⟨_, l1, rfl⟩, ⟨_, l2, rfl⟩, ⟨_, l3, rfl⟩, ⟨_, l4, rfl⟩, trivial⟩
     · exact .inr ⟨w.heap.size, eR, cR, l1, by rw [hown _ (by omega) (by omega)]; simp, q1, r4, r5⟩
     · have hall : ∀ e ∈ eV.toList, (g e.born).isSome = true := fun e he => by obtain ⟨q', g1, _⟩ := q6 e he; rw [g1]; rfl
       refine .inr ⟨w.heap.size + 1, _, cV, List.zipWith (xG g) xs eV.toList, l2, by rw [hown _ (by omega) (by omega)]; simp, q5, by rw [Array.toList_map]; exact repEs_G g xs _ v4, Z1d2 g v5, ?_, ?_, trivial⟩
       · refine inVs_G a2 xs eV.toList v6 v4 fun e he => ?_
         obtain ⟨q', g1, g2, g3, g4⟩ := q6 e he
         refine ⟨q', g1, by omega, ?_, fun q hq => g4 q hq⟩
         rw [hown q' (by omega) g3, if_neg (by omega), if_neg (by omega), if_neg (by omega), if_neg (by omega)]
       · rw [spots_G xs eV.toList v4 hall]
         exact nodup_G q7 _ v5.2.1 hall
     · exact .inr ⟨w.heap.size + 2, eS, cS, l3, by rw [hown _ (by omega) (by omega)]; simp, q2, s4, s5⟩
     · exact .inr ⟨w.heap.size + 3, eP, cP, l4, by rw [hown _ (by omega) (by omega)]; simp, q3, p4, p5⟩
 · rw [rep]
   exact ⟨_, if_pos rfl, rfl⟩
noncomputable def dD_Fork_fact0 : Fact Tryz.prog where
 f := 22
 K := factK [.c (.ptr 0 0)] [.cells 87 [.map 1, .map 2, .map 3, .map 4], .map .str (.int .i64), .vols, .map .str .sn, .map .tgt .done] false (fun _ _ => .ptr 5 0)
  (fun _ u => (.cells 87 [.map 1, .map 2, .map 3, .map 4] :: oM u.2.1 u.2.2.1 u.2.2.2.1 u.2.2.2.2.1 (.cells 87 [.map 6, .map 7, .map 8, .map 9] :: oM u.2.1 u.2.2.1 u.2.2.2.1 u.2.2.2.2.1 []))) (fun _ _ => [])
 ent := Z122 (fn := Tryz.f22) (by kernel_rfl) rfl (by kernel_rfl)
 ok := fun args h nid x effs need hkk _ => by
  unfold factK at hkk
  simp only at hkk
  generalize meet _ _ args h = ids at hkk
  split at hkk
  case isFalse => cases hkk
  split at hkk
  case h_2 => cases hkk
  rename_i t u ht hu
  simp only [Option.some.injEq, Prod.mk.injEq] at hkk
  obtain ⟨rfl, rfl, rfl⟩ := hkk
  obtain ⟨hl, ho⟩ := HPL.dec_eq nid _ hu
  have he := TPL.dec_eq nid _ ht
  match ids, hl with
  | [i0, i1, i2, i3, i4], _ =>
   obtain ⟨o0, e0, f0, _⟩ := ho 0 i0 rfl
   obtain ⟨o1, e1, f1, _⟩ := ho 1 i1 rfl
   obtain ⟨o2, e2, f2, _⟩ := ho 2 i2 rfl
   obtain ⟨o3, e3, f3, _⟩ := ho 3 i3 rfl
   obtain ⟨o4, e4, f4, _⟩ := ho 4 i4 rfl
   injection e0 with e0; injection e1 with e1; injection e2 with e2; injection e3 with e3; injection e4 with e4
   subst e0; subst e1; subst e2; subst e3; subst e4
   have hk := fork_K (nid := nid) f0 f1 f2 f3 f4
   have ha : args = [.ptr i0 0] := he
   rw [ha]
   exact hk
theorem fork_mask : ∀ k ∈ [0, 1, 2, 3, 4], k < 5 := by decide
noncomputable def dD_Fork_fact : Fact Tryz.prog := Z8c dD_Fork_fact0 [.c (.ptr 0 0)] [.cells 87 [.map 1, .map 2, .map 3, .map 4], .map .str (.int .i64), .vols, .map .str .sn, .map .tgt .done] (fun _ _ => .ptr 5 0)
  (fun _ u => (.cells 87 [.map 1, .map 2, .map 3, .map 4] :: oM u.2.1 u.2.2.1 u.2.2.2.1 u.2.2.2.2.1 (.cells 87 [.map 6, .map 7, .map 8, .map 9] :: oM u.2.1 u.2.2.1 u.2.2.2.1 u.2.2.2.2.1 []))) (fun _ _ => []) rfl [0, 1, 2, 3, 4]
 (fun t u k hk => ⟨fork_mask k hk, by
   simp only [List.mem_cons, List.not_mem_nil, or_false] at hk
   rcases hk with rfl | rfl | rfl | rfl | rfl <;> rfl⟩)
end Go.Proofs.YtkledlcmhbjadaaGreat
end
