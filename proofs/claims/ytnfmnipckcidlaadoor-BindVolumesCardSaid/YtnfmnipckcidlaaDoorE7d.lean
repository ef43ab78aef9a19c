/- The engine, part 7d: maps of one's own. -/
import Derived.Test.YtnfmnipckcidlaaDoorE7c
set_option linter.unusedVariables false
set_option linter.unusedSimpArgs false
namespace Go.Eng
open Go.RowKit (Below)

section
variable {P : Program} {B : Nat → Prop} {w0 w : World} {M0 M : Mem} {h hr : List AObj} {ρ : Loc} {t : List AV} {a : Act}

/-- Keys that are one cell. -/
def Kind.plainK : Kind → Bool
  | .int _ | .bool | .str => true
  | _ => false
theorem repV_int {k : IntKind} {x : Int} {v : Value} (h : repV M (.int k) x v) : v = .int k x := by
  obtain ⟨h1, h2, h3⟩ := h
  obtain ⟨u, hu, hr⟩ := h3 0 (.int k x) rfl
  simp only [Kind.isAgg, Bool.false_eq_true, if_false] at h1
  have hc : v.cells = #[v] := by cases v <;> first | rfl | exact absurd rfl (h1 _)
  rw [hc] at hu
  simp at hu
  subst hu
  exact hr
theorem repV_bool {x : Bool} {v : Value} (h : repV M .bool x v) : v = .bool x := by
  obtain ⟨h1, h2, h3⟩ := h
  obtain ⟨u, hu, hr⟩ := h3 0 (.bool x) rfl
  simp only [Kind.isAgg, Bool.false_eq_true, if_false] at h1
  have hc : v.cells = #[v] := by cases v <;> first | rfl | exact absurd rfl (h1 _)
  rw [hc] at hu
  simp at hu
  subst hu
  exact hr
theorem repV_str {x : ByteArray} {v : Value} (h : repV M .str x v) : v = .string x := by
  obtain ⟨h1, h2, h3⟩ := h
  obtain ⟨u, hu, hr⟩ := h3 0 (.str x) rfl
  simp only [Kind.isAgg, Bool.false_eq_true, if_false] at h1
  have hc : v.cells = #[v] := by cases v <;> first | rfl | exact absurd rfl (h1 _)
  rw [hc] at hu
  simp at hu
  subst hu
  exact hr
theorem repV_key {x : XKey} {v : Value} (h : repV M .key x v) : v = .agg #[.int .u8 x.kind, .string x.name] := by
  obtain ⟨h1, h2, h3⟩ := h
  obtain ⟨u, hu, hr⟩ := h3 0 (.int .u8 x.kind) rfl
  obtain ⟨u', hu', hr'⟩ := h3 1 (.str x.name) rfl
  simp only [Kind.isAgg, if_true] at h1
  obtain ⟨us, rfl⟩ := h1
  simp only [repE, sc] at hr hr'
  subst hr; subst hr'
  have h2 : us.toList.length = 2 := h2
  congr 1
  apply Array.ext'
  have hu : us.toList[0]? = some _ := hu
  have hu' : us.toList[1]? = some _ := hu'
  revert h2 hu hu'
  generalize us.toList = l
  intro h2 hu hu'
  match l, h2 with
  | [a, b], _ => simp at hu hu'; simp [hu, hu']
theorem repV_tgt {x : XTgt} {v : Value} (h : repV M .tgt x v) : v = .agg #[.bool x.snap, .string x.name] := by
  obtain ⟨h1, h2, h3⟩ := h
  obtain ⟨u, hu, hr⟩ := h3 0 (.bool x.snap) rfl
  obtain ⟨u', hu', hr'⟩ := h3 1 (.str x.name) rfl
  simp only [Kind.isAgg, if_true] at h1
  obtain ⟨us, rfl⟩ := h1
  simp only [repE, sc] at hr hr'
  subst hr; subst hr'
  have h2 : us.toList.length = 2 := h2
  congr 1
  apply Array.ext'
  have hu : us.toList[0]? = some _ := hu
  have hu' : us.toList[1]? = some _ := hu'
  revert h2 hu hu'
  generalize us.toList = l
  intro h2 hu hu'
  match l, h2 with
  | [a, b], _ => simp at hu hu'; simp [hu, hu']
/-- A typed key is the same key. -/
theorem eqb_eq {k : Kind} {x y : k.Ty} (h : k.eqb x y = true) : x = y := by
  cases k <;> simp only [Kind.eqb] at h
  case int => simpa using h
  case bool => simpa using h
  case str => simpa using h
  case key => obtain ⟨a, b⟩ := x; obtain ⟨c, d⟩ := y; simpa using h
  case tgt => obtain ⟨a, b⟩ := x; obtain ⟨c, d⟩ := y; simpa using h
  all_goals cases h

theorem bytes_beq (a b : ByteArray) : (a == b) = decide (a = b) := by
  obtain ⟨a⟩ := a
  obtain ⟨b⟩ := b
  show ByteArray.beq ⟨a⟩ ⟨b⟩ = _
  unfold ByteArray.beq
  rw [Bool.eq_iff_iff]
  simp
theorem sameNow_run {kt : TypeId} {k : Kind} (hk : keyOk P kt k = true) (hp : k.plainK = true) {x y : k.Ty} {u v : Value} (hu : repV M k x u) (hv : repV M k y v) : ∃ d, P.underlying kt = some d ∧ Instr.sameNow d u v = some (k.eqb x y) := by
  cases k <;> simp [Kind.plainK] at hp
  case int j =>
    simp only [keyOk, scalarOk] at hk
    split at hk
    · rename_i j' hd
      rw [repV_int hu, repV_int hv]
      exact ⟨_, hd, by simp [Instr.sameNow, Kind.eqb]⟩
    · cases hk
  case bool =>
    simp only [keyOk, scalarOk] at hk
    split at hk
    · rename_i hd
      rw [repV_bool hu, repV_bool hv]
      exact ⟨_, hd, by simp [Instr.sameNow, Kind.eqb]⟩
    · cases hk
  case str =>
    simp only [keyOk, scalarOk] at hk
    split at hk
    · rename_i hd
      rw [repV_str hu, repV_str hv]
      exact ⟨_, hd, by simp only [Instr.sameNow, Kind.eqb]; rw [bytes_beq]⟩
    · cases hk
structure PairOk (P : Program) (t : TypeId) (k1 k2 : Kind) : Prop where
  ex : ∃ f g : Field, P.underlying t = some (.struct #[f, g]) ∧ f.name ≠ "_" ∧ g.name ≠ "_" ∧ f.offset = 0 ∧ g.offset = 1 ∧ tsize P f.type = 1 ∧ tsize P g.type = 1 ∧ tagg P f.type = false ∧ tagg P g.type = false ∧ scalarOk P f.type k1 = true ∧ scalarOk P g.type k2 = true ∧ P.stoodInHeld t = false
theorem pairOk_ex {t : TypeId} {k1 k2 : Kind} (hk : pairOk P t k1 k2 = true) : PairOk P t k1 k2 := by
  unfold pairOk at hk
  split at hk
  · rename_i fs hd
    split at hk
    · rename_i f g hfs
      simp only [Bool.and_eq_true, bne_iff_ne, beq_iff_eq, Bool.not_eq_true', ne_eq] at hk
      obtain ⟨⟨⟨⟨⟨⟨⟨⟨⟨⟨h1, h2⟩, h3⟩, h4⟩, h5⟩, h6⟩, h7⟩, h8⟩, h9⟩, h10⟩, h11⟩ := hk
      have : fs = #[f, g] := by apply Array.ext'; exact hfs
      subst this
      exact ⟨f, g, hd, h1, h2, h3, h4, h5, h6, h7, h8, h9, h10, h11⟩
    · cases hk
  · cases hk
theorem under_of_scalar {t : TypeId} {k : Kind} (h : scalarOk P t k = true) : ∃ d, P.underlying t = some d ∧ (∀ s, d ≠ .struct s) ∧ (∀ n e, d ≠ .array n e) ∧ (∀ m, d ≠ .interface m) := by
  unfold scalarOk at h
  split at h <;> first | (split at h <;> first | (rename_i hd; exact ⟨_, hd, by simp, by simp, by simp⟩) | cases h) | cases h
theorem run_part0 {t : TypeId} {k : Kind} (hs : scalarOk P t k = true) (hg : tagg P t = false) (u v : Value) (w : World) : (part t #[u, v] 0).run P w = .ok u w ∧ (part t #[u, v] 1).run P w = .ok v w := by
  obtain ⟨d, hd, _⟩ := under_of_scalar hs
  constructor <;> simp [part, run_isAgg t w (by rw [hd]; rfl), hg]
theorem equal_pair {t : TypeId} {k1 k2 : Kind} (hk : pairOk P t k1 k2 = true) (a b c d : Value) (r1 r2 : Bool) (h1 : ∀ (f : TypeId), scalarOk P f k1 = true → ∀ n (w : World), (Op.equalIn (n + 1) f a c).run P w = .ok r1 w)
    (h2 : ∀ (f : TypeId), scalarOk P f k2 = true → ∀ n (w : World), (Op.equalIn (n + 1) f b d).run P w = .ok r2 w) (w : World) : (Op.equal t (.agg #[a, b]) (.agg #[c, d])).run P w = .ok (r1 && r2) w := by
  obtain ⟨f, g, hd, n1, n2, o1, o2, s1, s2, g1, g2, q1, q2, hst⟩ := (pairOk_ex hk).ex
  have hfs : P.fieldsOf t = #[f, g] := by simp [Program.fieldsOf, hd]
  show (Op.equalIn (9999 + 1) t _ _).run P w = _
  rw [run_equalIn_struct w 9999 t #[a, b] #[c, d] (by rw [hfs]; exact hd) hst, hfs]
  obtain ⟨p1, _⟩ := run_part0 q1 g1 a b w
  obtain ⟨p2, _⟩ := run_part0 q1 g1 c d w
  obtain ⟨_, p3⟩ := run_part0 q2 g2 a b w
  obtain ⟨_, p4⟩ := run_part0 q2 g2 c d w
  have e1 := h1 f.type q1 9998 w
  have e2 := h2 g.type q2 9998 w
  have er : (Op.eqFields 9999 #[a, b] #[c, d] [g]).run P w = .ok r2 w := by
    simp only [Op.eqFields, if_pos n2, o2, Sem.run_bind, p3, p4, Result.andThen_ok, e2]
    cases r2 <;> simp
  show (Op.eqFields 9999 _ _ [f, g]).run P w = _
  rw [Op.eqFields]
  simp only [if_pos n1, o1, Sem.run_bind, p1, p2, Result.andThen_ok, e1]
  cases r1
  · simp
  · simpa using er
theorem eq_int {k : IntKind} {x y : Int} (f : TypeId) (hs : scalarOk P f (.int k) = true) (n : Nat) (w : World) : (Op.equalIn (n + 1) f (.int k x) (.int k y)).run P w = .ok (x == y) w := by
  simp only [scalarOk] at hs
  split at hs
  · rename_i j hd; exact run_equalIn_int w n f k j x y hd
  · cases hs
theorem eq_bool {x y : Bool} (f : TypeId) (hs : scalarOk P f .bool = true) (n : Nat) (w : World) : (Op.equalIn (n + 1) f (.bool x) (.bool y)).run P w = .ok (x == y) w := by
  simp only [scalarOk] at hs
  split at hs
  · rename_i hd; exact run_equalIn_bool' w n f _ _ hd
  · cases hs
theorem eq_str {x y : ByteArray} (f : TypeId) (hs : scalarOk P f .str = true) (n : Nat) (w : World) : (Op.equalIn (n + 1) f (.string x) (.string y)).run P w = .ok (decide (x = y)) w := by
  simp only [scalarOk] at hs
  split at hs
  · rename_i hd; rw [run_equalIn_string w n f _ _ hd, toList_inj]
  · cases hs
theorem equal_key {kt : TypeId} {k : Kind} (hk : keyOk P kt k = true) (hp : k.plainK = false) {x y : k.Ty} {u v : Value} (hu : repV M k x u) (hv : repV M k y v) (w : World) : (Op.equal kt u v).run P w = .ok (k.eqb x y) w := by
  cases k <;> simp [keyOk] at hk <;> simp [Kind.plainK] at hp
  case key =>
    rw [repV_key hu, repV_key hv]
    exact equal_pair hk _ _ _ _ _ _ (fun f hf n w => eq_int f hf n w) (fun f hf n w => eq_str f hf n w) w
  case tgt =>
    rw [repV_tgt hu, repV_tgt hv]
    exact equal_pair hk _ _ _ _ _ _ (fun f hf n w => eq_bool f hf n w) (fun f hf n w => eq_str f hf n w) w

/-- Where a key lies. -/
def kfind {k v : Kind} (x : k.Ty) : List (k.Ty × v.Ty) → List MapEntry → Nat → Option (Nat × Value)
  | e :: r, m :: ms, i => if k.eqb x e.1 then some (i, m.val) else kfind x r ms (i + 1)
  | _, _, _ => none
theorem findKey_run {kt : TypeId} {k v : Kind} (hk : keyOk P kt k = true) {x : k.Ty} {u : Value} (hu : repV M k x u) {xs : List (k.Ty × v.Ty)} {es : List MapEntry} (he : repEs M k v xs es) (w : World) :
    (Instr.findKey kt u es).run P w = .ok (kfind x xs es 0) w := by
  unfold Instr.findKey
  by_cases hp : k.plainK = true
  · have key : ∀ (xs : List (k.Ty × v.Ty)) (es : List MapEntry) (i : Nat), repEs M k v xs es → ∀ d, P.underlying kt = some d → Instr.findNow d u es i = some (kfind x xs es i) := by
      intro xs
      induction xs with
      | nil => intro es i he d hd; cases es <;> simp [repEs] at he; simp [Instr.findNow, kfind]
      | cons e xs ih =>
        intro es i he d hd
        cases es with
        | nil => simp [repEs] at he
        | cons m es =>
          simp only [repEs] at he
          obtain ⟨d', hd', hn⟩ := sameNow_run hk hp hu he.1
          rw [hd] at hd'
          injection hd' with hd'
          subst hd'
          simp only [Instr.findNow, hn, kfind]
          cases k.eqb x e.1
          · simpa using ih es (i + 1) he.2.2 d hd
          · simp
    obtain ⟨d, hd⟩ : ∃ d, P.underlying kt = some d := by
      obtain ⟨d, hd, _⟩ := sameNow_run hk hp hu hu
      exact ⟨d, hd⟩
    simp only [Sem.run_bind, run_underlying hd, Result.andThen_ok, key xs es 0 he d hd, Sem.run_pure]
  · have hp : k.plainK = false := by simpa using hp
    have key : ∀ (xs : List (k.Ty × v.Ty)) (es : List MapEntry) (i : Nat), repEs M k v xs es → (Instr.findAsking kt u es i).run P w = .ok (kfind x xs es i) w := by
      intro xs
      induction xs with
      | nil => intro es i he; cases es <;> simp [repEs] at he; simp [Instr.findAsking, kfind]
      | cons e xs ih =>
        intro es i he
        cases es with
        | nil => simp [repEs] at he
        | cons m es =>
          simp only [repEs] at he
          simp only [Instr.findAsking, Sem.run_bind, equal_key hk hp hu he.1 w, Result.andThen_ok, kfind]
          cases k.eqb x e.1
          · simpa using ih es (i + 1) he.2.2
          · simp
    obtain ⟨d, hd, hns⟩ : ∃ d, P.underlying kt = some d ∧ ∃ s, d = .struct s := by
      cases k <;> simp [keyOk] at hk <;> simp [Kind.plainK] at hp <;> (obtain ⟨f, g, hd, _⟩ := (pairOk_ex hk).ex; exact ⟨_, hd, _, rfl⟩)
    obtain ⟨s, rfl⟩ := hns
    simp only [Sem.run_bind, run_underlying hd, Result.andThen_ok]
    cases es with
    | nil => cases xs <;> simp [repEs] at he; simp [Instr.findNow, kfind]
    | cons m es =>
      have : Instr.findNow (.struct s) u (m :: es) 0 = none := by
        simp only [Instr.findNow]
        have : Instr.sameNow (.struct s) u m.key = none := by simp [Instr.sameNow]
        rw [this]
      rw [this]
      exact key xs (m :: es) 0 he
theorem checkKey_run {kt : TypeId} {k : Kind} (hk : keyOk P kt k = true) {x : k.Ty} {u : Value} (hu : repV M k x u) (b : Bool) (w : World) : (Instr.checkKey b 10000 kt u).run P w = .ok () w := by
  have plain : ∀ (n : Nat) (f : TypeId) (k' : Kind) (v : Value), scalarOk P f k' = true → (Instr.checkKey b (n + 1) f v).run P w = .ok () w := by
    intro n f k' v hs
    obtain ⟨d, hd, h1, h2, h3⟩ := under_of_scalar hs
    simp only [Instr.checkKey, Sem.run_bind, run_underlying hd, Result.andThen_ok]
    cases d <;> first | rfl | exact absurd rfl (h1 _) | exact absurd rfl (h2 _ _) | exact absurd rfl (h3 _)
  have pair : ∀ (n : Nat) (k1 k2 : Kind) (a c : Value), pairOk P kt k1 k2 = true → (Instr.checkKey b (n + 2) kt (.agg #[a, c])).run P w = .ok () w := by
    intro n k1 k2 a c hp
    obtain ⟨f, g, hd, n1, n2, o1, o2, s1, s2, g1, g2, q1, q2, hst⟩ := (pairOk_ex hp).ex
    have p1 := (run_part0 q1 g1 a c w).1
    have p2 := (run_part0 q2 g2 a c w).2
    have e1 := plain n f.type k1 a q1
    have e2 := plain n g.type k2 c q2
    rw [show n + 2 = (n + 1) + 1 from rfl, Instr.checkKey]
    simp only [Sem.run_bind, run_underlying hd, Result.andThen_ok]
    simp [n1, n2, o1, o2, p1, p2, e1, e2]
  cases k <;> simp [keyOk] at hk
  case int j => exact plain 9999 kt _ _ hk
  case bool => exact plain 9999 kt _ _ hk
  case str => exact plain 9999 kt _ _ hk
  case key => rw [repV_key hu]; exact pair 9998 _ _ _ _ hk
  case tgt => rw [repV_tgt hu]; exact pair 9998 _ _ _ _ hk
theorem kfind_get {k v : Kind} (x : k.Ty) : ∀ (xs : List (k.Ty × v.Ty)) (es : List MapEntry) (i : Nat), repEs M k v xs es →
    (kfind x xs es i = none ∧ mget xs x = none) ∨ ∃ j y u, kfind x xs es i = some (i + j, u) ∧ mget xs x = some y ∧ repV M v y u ∧ j < es.length
  | [], [], i, _ => .inl ⟨rfl, rfl⟩
  | e :: xs, m :: es, i, he => by
    simp only [repEs] at he
    simp only [kfind, mget]
    by_cases hb : k.eqb x e.1 = true
    · rw [if_pos hb, if_pos hb]
      exact .inr ⟨0, e.2, m.val, rfl, rfl, he.2.1, by simp⟩
    · rw [if_neg hb, if_neg hb]
      rcases kfind_get x xs es (i + 1) he.2.2 with h | ⟨j, y, u, h1, h2, h3, h4⟩
      · exact .inl h
      · exact .inr ⟨j + 1, y, u, by rw [h1]; congr 2; omega, h2, h3, by simp; omega⟩
  | [], _ :: _, _, he => by simp [repEs] at he
  | _ :: _, [], _, he => by simp [repEs] at he
theorem kfind_set {k v : Kind} (x : k.Ty) (y : v.Ty) (ku vu : Value) (hku : repV M k x ku) (hvu : repV M v y vu) : ∀ (xs : List (k.Ty × v.Ty)) (es : List MapEntry) (i : Nat), repEs M k v xs es →
    (kfind x xs es i = none → ∀ b, repEs M k v (mset xs x y) (es ++ [{ key := ku, val := vu, born := b }])) ∧
    (∀ j u, kfind x xs es i = some (i + j, u) → repEs M k v (mset xs x y) (es.modify j fun e => { e with key := ku, val := vu }) ∧ ∃ e, es[j]? = some e ∧ repV M k x e.key)
  | [], [], i, _ => ⟨fun _ b => by simp [mset, repEs]; exact ⟨hku, hvu⟩, fun j u h => by simp [kfind] at h⟩
  | e :: xs, m :: es, i, he => by
    simp only [repEs] at he
    simp only [kfind, mset]
    by_cases hb : k.eqb x e.1 = true
    · rw [if_pos hb, if_pos hb]
      refine ⟨fun h => (by cases h), fun j u h => ?_⟩
      simp only [Option.some.injEq, Prod.mk.injEq] at h
      have hj : j = 0 := by omega
      subst hj
      refine ⟨?_, m, rfl, by rw [eqb_eq hb]; exact he.1⟩
      simp [repEs]
      exact ⟨hku, hvu, he.2.2⟩
    · rw [if_neg hb, if_neg hb]
      obtain ⟨h1, h2⟩ := kfind_set x y ku vu hku hvu xs es (i + 1) he.2.2
      refine ⟨fun h b => ?_, fun j u h => ?_⟩
      · simp only [List.cons_append, repEs]
        exact ⟨he.1, he.2.1, h1 h b⟩
      · rcases kfind_get (M := M) x xs es (i + 1) he.2.2 with hn | ⟨j', y', u', g1, _⟩
        · rw [hn.1] at h; cases h
        · rw [g1] at h
          simp only [Option.some.injEq, Prod.mk.injEq] at h
          have hj : j = j' + 1 := by omega
          subst hj
          obtain ⟨q1, e', q2, q3⟩ := h2 j' u' g1
          refine ⟨?_, e', by simpa using q2, q3⟩
          simp only [List.modify_succ_cons, repEs]
          exact ⟨he.1, he.2.1, q1⟩
  | [], _ :: _, _, he => by simp [repEs] at he
  | _ :: _, [], _, he => by simp [repEs] at he
theorem kfind_del {k v : Kind} (x : k.Ty) : ∀ (xs : List (k.Ty × v.Ty)) (es : List MapEntry) (i : Nat), repEs M k v xs es →
    (kfind x xs es i = none → repEs M k v (mdel xs x) es) ∧ (∀ j u, kfind x xs es i = some (i + j, u) → repEs M k v (mdel xs x) (es.eraseIdx j))
  | [], [], i, _ => ⟨fun _ => trivial, fun j u h => by simp [kfind] at h⟩
  | e :: xs, m :: es, i, he => by
    simp only [repEs] at he
    simp only [kfind, mdel]
    by_cases hb : k.eqb x e.1 = true
    · rw [if_pos hb, if_pos hb]
      refine ⟨fun h => (by cases h), fun j u h => ?_⟩
      simp only [Option.some.injEq, Prod.mk.injEq] at h
      have hj : j = 0 := by omega
      subst hj
      simpa using he.2.2
    · rw [if_neg hb, if_neg hb]
      obtain ⟨h1, h2⟩ := kfind_del x xs es (i + 1) he.2.2
      refine ⟨fun h => ?_, fun j u h => ?_⟩
      · simp only [repEs]; exact ⟨he.1, he.2.1, h1 h⟩
      · rcases kfind_get (M := M) x xs es (i + 1) he.2.2 with hn | ⟨j', y', u', g1, _⟩
        · rw [hn.1] at h; cases h
        · rw [g1] at h
          simp only [Option.some.injEq, Prod.mk.injEq] at h
          have hj : j = j' + 1 := by omega
          subst hj
          simp only [List.eraseIdx_cons_succ, repEs]
          exact ⟨he.1, he.2.1, h2 j' u' g1⟩
  | [], _ :: _, _, he => by simp [repEs] at he
  | _ :: _, [], _, he => by simp [repEs] at he
theorem kindAv_rep {k : Kind} {x : k.Ty} {u : Value} (h : repV M k x u) : rep ρ M noG (k.av x) u := by
  obtain ⟨h1, h2, h3⟩ := h
  have cellOk : ∀ (j : Nat) (y : AV) (u : Value), (k.enc x)[j]? = some y → repE M y u → rep ρ M noG y u := by
    intro j y u hy hm
    rcases k.enc_cell x j y hy with ⟨c, rfl, _⟩ | hs
    · exact repC_up _ _ _ hm
    · cases y <;> simp [AV.isSc] at hs <;> simpa [repE, sc, rep] using hm
  unfold Kind.av
  split
  · rename_i hg
    rw [if_pos hg] at h1
    obtain ⟨us, rfl⟩ := h1
    simp only [rep]
    refine ⟨us.toList, by simp, ?_⟩
    have key : ∀ (l : List AV) (us : List Value), l.length = us.length → (∀ (j : Nat) (x : AV), l[j]? = some x → ∃ u : Value, us[j]? = some u ∧ rep ρ M noG x u) → repL ρ M noG l us := by
      intro l
      induction l with
      | nil => intro us hl _; cases us <;> simp [repL] at hl ⊢
      | cons x l ih =>
        intro us hl hx
        cases us with
        | nil => simp at hl
        | cons u us =>
          simp only [repL]
          obtain ⟨u', h1, h2⟩ := hx 0 x rfl
          simp at h1; subst h1
          exact ⟨h2, ih us (by simpa using hl) fun j z hz => by simpa using hx (j + 1) z (by simpa using hz)⟩
    refine key _ _ (by rw [k.enc_length]; exact h2.symm) fun j y hy => ?_
    obtain ⟨u, hu, hm⟩ := h3 j y hy
    exact ⟨u, hu, cellOk j y u hy hm⟩
  · rename_i hg
    rw [if_neg hg] at h1
    have hc : u.cells = #[u] := by cases u <;> first | rfl | exact absurd rfl (h1 _)
    have hl : k.esz = 1 := by rw [← h2, hc]; rfl
    have hl' := k.enc_length x
    rw [hl] at hl'
    match hx : k.enc x, hl' with
    | [y], _ =>
      obtain ⟨u', hu, hm⟩ := h3 0 y (by rw [hx]; rfl)
      rw [hc] at hu
      simp at hu
      subst hu
      exact cellOk 0 y _ (by rw [hx]; rfl) hm
theorem decV_rep {k : Kind} {x : AV} {v : Value} {y : k.Ty} (hd : k.decV x = some y) (hv : rep ρ M noG x v) : repV M k y v := by
  unfold Kind.decV at hd
  split at hd
  · rename_i hg
    obtain ⟨h1, h2⟩ := dec_cells hd hv
    refine ⟨?_, h1⟩
    split
    · rename_i ha
      rw [ha] at hg
      cases x <;> simp [aggAV] at hg
      simp only [rep] at hv
      obtain ⟨vs, rfl, _⟩ := hv
      exact ⟨_, rfl⟩
    · rename_i ha
      have hone := likeL_one (k.dec_like hd)
      rintro us rfl
      have ha : k.isAgg = false := by simpa using ha
      rw [ha] at hg
      have hc : x.cells = [x] := by cases x <;> first | rfl | simp [aggAV] at hg
      rw [hc] at hone
      simp only [List.all_cons, List.all_nil, Bool.and_true] at hone
      have := (one_cells hone hv).1
      simp [Value.oneCell'] at this
  · cases hd
theorem zeroV (M : Mem) {e : TypeId} {k : Kind} (hz : zeroOk P e k = true) (w : World) : ∃ z, (zeroValue e).run P w = .ok z w ∧ repV M k default z := by
  obtain ⟨i, z, hi, hzz, hzs, hzx, h⟩ := zero_of (P := P) M hz
  exact ⟨z, run_zeroValue hi hzz w, h⟩

/-- A map's block turns. -/
theorem SimH.setMap (H : SimH B w0 M0 h w ρ M) {id : Nat} {m : MapC} (ho : hget h id = .map m) {r : Nat} (hr : ρ id = some (.blk r)) (m' : MapC) (es : Array MapEntry) (cl : Nat) (he : repEs M m'.k m'.v m'.es es.toList) :
    SimH B w0 M0 (hset h id (.map m')) { w with heap := w.heap.setIfInBounds r (.map es cl) } ρ M := by
  have hobj := H.obj id
  rw [ho] at hobj
  obtain ⟨r', ents, clock, h1, h2, h3, h4⟩ := hobj
  rw [hr] at h1
  injection h1 with h1
  injection h1 with h1
  subst h1
  have hrl := (Array.getElem?_eq_some_iff.1 h3).1
  have hne : ∀ k, k ≠ r → (w.heap.setIfInBounds r (.map es cl))[k]? = w.heap[k]? := fun k hk => Array.getElem?_setIfInBounds_ne (Ne.symm hk)
  have hM : ∀ off, M r off = none := by
    intro off
    cases hm : M r off with
    | none => rfl
    | some v =>
      have := H.mem _ _ _ hm
      unfold World.cell? at this
      simp [h3] at this
  refine H.update id _ (fun _ _ => rfl) (Loc.le_refl _) (Mem.le_refl _) ⟨r, es, cl, hr, h2, by simp [hrl], he⟩ ?_ (fun r' i hr' => ⟨(H.own r' i hr').1, by simpa using (H.own r' i hr').2⟩) ?_ (fun _ _ _ => rfl)
    ⟨rfl, rfl, rfl, by simp, fun k hk => hne k fun e => (H.own _ _ h2).1 (e ▸ hk)⟩
  · intro i r' hni hd hr'
    refine ⟨hr', hne r' fun e => hni ?_, fun _ h => h⟩
    subst e
    rw [h2] at hr'
    injection hr' with hr'
    exact hr'.symm
  · intro b o v hv
    have := H.mem b o v hv
    have hb : b ≠ r := fun e => by subst e; rw [hM o] at hv; cases hv
    rw [← this]
    unfold World.cell?
    simp only [hne b hb]
theorem sameBits_key {k : Kind} {kt : TypeId} (hk : keyOk P kt k = true) {x : k.Ty} {u v : Value} (hu : repV M k x u) (hv : repV M k x v) : Instr.sameBits 10000 u v = true := by
  cases k <;> simp [keyOk] at hk
  case int => rw [repV_int hu, repV_int hv]; simp [Instr.sameBits]
  case bool => rw [repV_bool hu, repV_bool hv]; simp [Instr.sameBits]
  case str => rw [repV_str hu, repV_str hv]; simp [Instr.sameBits, bytes_beq]
  case key => rw [repV_key hu, repV_key hv]; simp [Instr.sameBits, bytes_beq]
  case tgt => rw [repV_tgt hu, repV_tgt hv]; simp [Instr.sameBits, bytes_beq]
theorem map_block (H : SimH B w0 M0 h w ρ M) {id : Nat} {m : MapC} (ho : hget h id = .map m) {v : Value} (hv : rep ρ M noG (.map id) v) :
    ∃ r es cl, v = .map (some r) ∧ ρ id = some (.blk r) ∧ w.heap[r]? = some (.map es cl) ∧ repEs M m.k m.v m.es es.toList := by
  have hobj := H.obj id
  rw [ho] at hobj
  obtain ⟨r', ents, clock, h1, h2, h3, h4⟩ := hobj
  simp only [rep] at hv
  obtain ⟨r, hr, rfl⟩ := hv
  rw [hr] at h1
  injection h1 with h1
  injection h1 with h1
  subst h1
  exact ⟨r, ents, clock, rfl, hr, h3, h4⟩
theorem run_getMap {w : World} {r : Nat} {es : Array MapEntry} {cl : Nat} (h : w.heap[r]? = some (.map es cl)) : (getObj r).run P w = .ok (.map es cl) w := by
  simp [getObj, Sem.run, h]
theorem run_setMap {w : World} {r : Nat} {es : Array MapEntry} {cl : Nat} (h : w.heap[r]? = some (.map es cl)) (o : Obj) : (setObj r o).run P w = .ok () { w with heap := w.heap.setIfInBounds r o } := by
  simp only [setObj, Sem.run, h]
theorem lookup_run (H : SimH B w0 M0 h w ρ M) {id : Nat} {m : MapC} (ho : hget h id = .map m) {ty kt et : TypeId} (hu : P.underlying ty = some (.map kt et)) (hk : keyOk P kt m.k = true) (hz : zeroOk P et m.v = true)
    {mv kv : Value} (hm : rep ρ M noG (.map id) mv) {x : m.k.Ty} (hx : repV M m.k x kv) (ok : Bool) :
    ∃ u, (Instr.lookup ty mv kv ok).run P w = .ok u w ∧ rep ρ M noG (if ok then .tup [m.v.av ((mget m.es x).getD default), .bool (mget m.es x).isSome] else m.v.av ((mget m.es x).getD default)) u := by
  obtain ⟨r, es, cl, rfl, hr, hb, he⟩ := map_block H ho hm
  obtain ⟨z, hzr, hzv⟩ := zeroV (P := P) M hz w
  have hf := findKey_run (P := P) hk hx he w
  have hck := checkKey_run (P := P) hk hx es.isEmpty w
  rcases kfind_get (M := M) x m.es es.toList 0 he with ⟨h1, h2⟩ | ⟨j, y, u, h1, h2, h3, _⟩
  · rw [h1] at hf
    rw [h2]
    refine ⟨if ok then .tuple #[z, .bool false] else z, ?_, ?_⟩
    · simp only [Instr.lookup, Sem.run_bind, run_underlying hu, Result.andThen_ok, run_getMap hb, Sem.run_pure, hck, hf, hzr]
    · cases ok
      · exact kindAv_rep hzv
      · simp only [if_true, rep]; exact ⟨_, rfl, by simp only [repL, rep]; exact ⟨kindAv_rep hzv, rfl, trivial⟩⟩
  · rw [h1] at hf
    rw [h2]
    refine ⟨if ok then .tuple #[u, .bool true] else u, ?_, ?_⟩
    · simp only [Instr.lookup, Sem.run_bind, run_underlying hu, Result.andThen_ok, run_getMap hb, Sem.run_pure, hck, hf]
    · cases ok
      · exact kindAv_rep h3
      · simp only [if_true, rep]; exact ⟨_, rfl, by simp only [repL, rep]; exact ⟨kindAv_rep h3, rfl, trivial⟩⟩
theorem mapUpdate_run (H : SimH B w0 M0 h w ρ M) {id : Nat} {m : MapC} (ho : hget h id = .map m) {ty kt et : TypeId} (hu : P.underlying ty = some (.map kt et)) (hk : keyOk P kt m.k = true)
    {mv kv vv : Value} (hm : rep ρ M noG (.map id) mv) {x : m.k.Ty} (hx : repV M m.k x kv) {y : m.v.Ty} (hy : repV M m.v y vv) :
    ∃ w', (Instr.mapUpdate ty mv kv vv).run P w = .ok () w' ∧ SimH B w0 M0 (hset h id (.map ⟨m.k, m.v, mset m.es x y⟩)) w' ρ M := by
  obtain ⟨r, es, cl, rfl, hr, hb, he⟩ := map_block H ho hm
  have hf := findKey_run (P := P) hk hx he w
  have hck := checkKey_run (P := P) hk hx false w
  obtain ⟨s1, s2⟩ := kfind_set (M := M) x y kv vv hx hy m.es es.toList 0 he
  rcases kfind_get (M := M) x m.es es.toList 0 he with ⟨h1, h2⟩ | ⟨j, y', u, h1, h2, h3, hlt⟩
  · rw [h1] at hf
    refine ⟨_, ?_, H.setMap ho hr ⟨m.k, m.v, mset m.es x y⟩ (es.push { key := kv, val := vv, born := cl }) (cl + 1) (by simpa using s1 h1 cl)⟩
    simp only [Instr.mapUpdate, Sem.run_bind, run_underlying hu, Result.andThen_ok, run_getMap hb, hck, hf, run_setMap hb]
  · rw [h1] at hf
    obtain ⟨q1, e, q2, q3⟩ := s2 j u h1
    refine ⟨_, ?_, H.setMap ho hr ⟨m.k, m.v, mset m.es x y⟩ (es.modify j fun e => { e with key := kv, val := vv }) cl (by rw [Array.toList_modify]; exact q1)⟩
    have hge : es[j]? = some e := by simpa using q2
    have hsb := sameBits_key (P := P) hk q3 hx
    simp only [Instr.mapUpdate, Sem.run_bind, run_underlying hu, Result.andThen_ok, run_getMap hb, hck, hf, Nat.zero_add, hge, Option.map_some, Option.getD_some, Instr.keyThatStays, hsb, if_true, Sem.run_pure, run_setMap hb]
theorem delete_run (H : SimH B w0 M0 h w ρ M) {id : Nat} {m : MapC} (ho : hget h id = .map m) {ty kt et : TypeId} (hu : P.underlying ty = some (.map kt et)) (hk : keyOk P kt m.k = true)
    {mv kv : Value} (hm : rep ρ M noG (.map id) mv) {x : m.k.Ty} (hx : repV M m.k x kv) (ats : Array TypeId) (hat : ats[0]? = some ty) (rt : TypeId) (args : Array Value) (ha0 : args[0]? = some mv) (ha1 : args[1]? = some kv) :
    ∃ w', (Builtin.delete_ ats rt args).run P w = .ok (.tuple #[]) w' ∧ SimH B w0 M0 (hset h id (.map ⟨m.k, m.v, mdel m.es x⟩)) w' ρ M := by
  obtain ⟨r, es, cl, rfl, hr, hb, he⟩ := map_block H ho hm
  have hf := findKey_run (P := P) hk hx he w
  have hck := checkKey_run (P := P) hk hx es.isEmpty w
  obtain ⟨s1, s2⟩ := kfind_del (M := M) x m.es es.toList 0 he
  rcases kfind_get (M := M) x m.es es.toList 0 he with ⟨h1, h2⟩ | ⟨j, y', u, h1, h2, h3, hlt⟩
  · rw [h1] at hf
    refine ⟨_, ?_, H.setMap ho hr ⟨m.k, m.v, mdel m.es x⟩ es cl (s1 h1)⟩
    simp [Builtin.delete_, hat, ha0, ha1, run_underlying hu, run_getMap hb, hck, hf, run_setMap hb]
  · rw [h1] at hf
    refine ⟨_, ?_, H.setMap ho hr ⟨m.k, m.v, mdel m.es x⟩ (es.eraseIdxIfInBounds j) cl (by
      have hlt' : j < es.size := by simpa using hlt
      rw [Array.eraseIdxIfInBounds, dif_pos hlt', Array.toList_eraseIdx]
      exact s2 j u h1)⟩
    simp [Builtin.delete_, hat, ha0, ha1, run_underlying hu, run_getMap hb, hck, hf, run_setMap hb]
end
end Go.Eng
