/- The engine, part 14: what is known of functions, kept in lists. -/
import Derived.Test.YtnfmnipckcidlaaDoorE13
import Derived.Conc.MuLone
set_option linter.unusedVariables false
set_option linter.unusedSimpArgs false
namespace Go.Eng

/-- What is known of a function: its result and what it makes of objects. -/
structure Fact (P : Program) where
  f : FuncId
  K : List AV → List AObj → Nat → Option Out
  ent : ∀ (vs : Array Value) (w : World), (callFunc f vs).run P w = .ok (.enter f vs) w
  ok : ∀ args h nid x effs need, K args h nid = some (x, effs, need) → (∀ p ∈ need, p) → KSound P f args h nid x effs
/-- Of one that may panic. -/
structure FactP (P : Program) where
  f : FuncId
  K : List AV → Option (Bool × Value)
  ent : ∀ (vs : Array Value) (w : World), (callFunc f vs).run P w = .ok (.enter f vs) w
  ok : ∀ args b pv, K args = some (b, pv) → KPSound P f args b pv
/-- Of one that comes back in one of two ways. -/
structure FactB (P : Program) where
  f : FuncId
  K : List AV → List AObj → Nat → Option (Bool × Out × Out)
  ent : ∀ (vs : Array Value) (w : World), (callFunc f vs).run P w = .ok (.enter f vs) w
  ok : ∀ args h nid b x1 e1 n1 x2 e2 n2, K args h nid = some (b, (x1, e1, n1), (x2, e2, n2)) → (b = true → (∀ p ∈ n1, p) → KSound P f args h nid x1 e1) ∧ (b = false → (∀ p ∈ n2, p) → KSound P f args h nid x2 e2)
/-- Of a round of a range over a function. -/
structure FactY (P : Program) where
  K : List AV → List AObj → Nat → Option YB
  ok : ∀ args h nid r, K args h nid = some r → YBOk P args h nid r
def askY {P : Program} (args : List AV) (h : List AObj) (nid : Nat) : List (FactY P) → Option YB
  | [] => none
  | x :: r => match x.K args h nid with
      | some o => some o
      | none => askY args h nid r
theorem askY_some {P : Program} {args : List AV} {h : List AObj} {nid : Nat} {o : YB} : ∀ {l : List (FactY P)}, askY args h nid l = some o → ∃ x : FactY P, x.K args h nid = some o
  | [], e => by cases e
  | x :: r, e => by
    unfold askY at e
    split at e
    · rename_i o' ho; injection e with e; subst e; exact ⟨x, ho⟩
    · exact askY_some e
/-- What the facts of function f tell. -/
def askK {P : Program} (f : FuncId) (args : List AV) (h : List AObj) (nid : Nat) : List (Fact P) → Option Out
  | [] => none
  | x :: r => if x.f = f then match x.K args h nid with
      | some o => some o
      | none => askK f args h nid r
    else askK f args h nid r
def askP {P : Program} (f : FuncId) (args : List AV) : List (FactP P) → Option (Bool × Value)
  | [] => none
  | x :: r => if x.f = f then match x.K args with
      | some o => some o
      | none => askP f args r
    else askP f args r
def askB {P : Program} (f : FuncId) (args : List AV) (h : List AObj) (nid : Nat) : List (FactB P) → Option (Bool × Out × Out)
  | [] => none
  | x :: r => if x.f = f then match x.K args h nid with
      | some o => some o
      | none => askB f args h nid r
    else askB f args h nid r
theorem askK_some {P : Program} {f : FuncId} {args : List AV} {h : List AObj} {nid : Nat} {o : Out} : ∀ {l : List (Fact P)}, askK f args h nid l = some o → ∃ x : Fact P, x.f = f ∧ x.K args h nid = some o
  | [], e => by cases e
  | x :: r, e => by
    unfold askK at e
    split at e
    · rename_i hf
      split at e
      · rename_i o' ho; injection e with e; subst e; exact ⟨x, hf, ho⟩
      · exact askK_some e
    · exact askK_some e
theorem askP_some {P : Program} {f : FuncId} {args : List AV} {o : Bool × Value} : ∀ {l : List (FactP P)}, askP f args l = some o → ∃ x : FactP P, x.f = f ∧ x.K args = some o
  | [], e => by cases e
  | x :: r, e => by
    unfold askP at e
    split at e
    · rename_i hf
      split at e
      · rename_i o' ho; injection e with e; subst e; exact ⟨x, hf, ho⟩
      · exact askP_some e
    · exact askP_some e
theorem askB_some {P : Program} {f : FuncId} {args : List AV} {h : List AObj} {nid : Nat} {o : Bool × Out × Out} : ∀ {l : List (FactB P)}, askB f args h nid l = some o → ∃ x : FactB P, x.f = f ∧ x.K args h nid = some o
  | [], e => by cases e
  | x :: r, e => by
    unfold askB at e
    split at e
    · rename_i hf
      split at e
      · rename_i o' ho; injection e with e; subst e; exact ⟨x, hf, ho⟩
      · exact askB_some e
    · exact askB_some e
def envOf {P : Program} (ks : List (Fact P)) (ps : List (FactP P)) (bs : List (FactB P)) (ck : TypeId → Option Kind) (wr : Bool := false) (ys : List (FactY P) := []) : Env where
  P := P
  K := fun f args h nid => askK f args h nid ks
  KP := fun f args => askP f args ps
  KB := fun f args h nid => askB f args h nid bs
  Y := fun args h nid => askY args h nid ys
  ck := ck
  wr := wr
theorem kok {P : Program} (ks : List (Fact P)) (ps : List (FactP P)) (bs : List (FactB P)) (ck : TypeId → Option Kind) (wr : Bool) (ys : List (FactY P) := []) : KOk (envOf ks ps bs ck wr ys) where
  yOk := fun args hh nid r h => by obtain ⟨x, h'⟩ := askY_some h; exact x.ok _ _ _ _ h'
  pEnters := fun f args r h vs w => by obtain ⟨x, rfl, _⟩ := askP_some h; exact x.ent vs w
  pSound := fun f args b pv h => by obtain ⟨x, rfl, h'⟩ := askP_some h; exact x.ok _ _ _ h'
  bEnters := fun f args hh nid r h vs w => by obtain ⟨x, rfl, _⟩ := askB_some h; exact x.ent vs w
  bSound := fun f args hh nid b x1 e1 n1 x2 e2 n2 h => by obtain ⟨x, rfl, h'⟩ := askB_some h; exact x.ok _ _ _ _ _ _ _ _ _ _ h'
  enters := fun f args hh nid r h vs w => by obtain ⟨x, rfl, _⟩ := askK_some h; exact x.ent vs w
  sound := fun f args hh nid x effs need h hn => by obtain ⟨y, rfl, h'⟩ := askK_some h; exact y.ok _ _ _ _ _ _ h' hn
theorem ent_of {P : Program} {f : FuncId} {fn : Func} {c : Code} (hf : P.funcs[f]? = some fn) (hb : fn.body = some c) (hname : (fn.name == "runtime.NumGoroutine") = false) (vs : Array Value) (w : World) :
    (callFunc f vs).run P w = .ok (.enter f vs) w := Go.MuLone.run_callFunc_enter hf hname hb vs w
/-- A function of plain values. -/
theorem sound_pure {P : Program} {f : FuncId} {fn : Func} {c : Code} (hf : P.funcs[f]? = some fn) (hb : fn.body = some c) {args : List AV} {x : AV} (hin : okIn 0 args [] = true) (hout : okOut 0 x [] = true)
    (h : Tr P 0 c (fnBegins fn args []) (fnEnds P fn x [])) (hr : List AObj) (nid : Nat) (hra : renL (sig [] nid) args = args := by rfl) (hrx : ren (sig [] nid) x = x := by rfl) : KSound P f args hr nid x [] := by
  have := sound_of_Tr hf hb (ids := []) (h0 := []) (h1 := []) h hin hout (hr := hr) (nid := nid) (by simp [okIds]) (by simp)
  rw [hra, hrx] at this
  exact this
end Go.Eng
namespace Go.Eng
/-- Objects that are left as they are need no word. -/
theorem KSound.drop {P : Program} {f : FuncId} {args : List AV} {hr : List AObj} {nid : Nat} {x : AV} {effs : Eff} (h : KSound P f args hr nid x effs) (hs : ∀ e ∈ effs, hget hr e.1 = e.2 ∧ e.2 ≠ .dead ∧ e.1 < nid) : KSound P f args hr nid x [] := by
  intro B w0 M0 hh w ρ M vs H hle _ hargs
  have hid : ∀ e ∈ effs, hget hh e.1 = e.2 ∧ ∃ r, ρ e.1 = some r := by
    intro e he
    obtain ⟨h1, h2, h3⟩ := hs e he
    have h4 : hget hh e.1 = e.2 := (hle e.1 (by rw [h1]; exact h2)).trans h1
    refine ⟨h4, ?_⟩
    have := H.obj e.1
    rw [h4] at this
    generalize e.2 = o at this h2
    cases o with
    | dead => exact absurd rfl h2
    | cells t cs => obtain ⟨r, _, h1, _⟩ := this; exact ⟨_, h1⟩
    | vec f c => obtain ⟨r, h1, _⟩ := this; exact ⟨_, h1⟩
    | map m => obtain ⟨r, _, _, h1, _⟩ := this; exact ⟨_, h1⟩
    | iter s pos => obtain ⟨r, h1, _⟩ := this; exact ⟨_, h1⟩
    | loop site t pd => obtain ⟨r, _, h1, _⟩ := this; exact ⟨_, h1⟩
  refine (h B w0 M0 hh w ρ M vs H hle (fun p hp hn => absurd (hs p hp).2.2 (by omega)) hargs).mono ?_
  rintro e w' ⟨v, ρ', M', he, h1, h2, h3, h4⟩
  have hget_eq : ∀ (effs : Eff) (hh : List AObj), (∀ e ∈ effs, hget hh e.1 = e.2) → ∀ id, hget (applyEff hh effs) id = hget hh id := by
    intro effs
    induction effs with
    | nil => intro hh _ id; rfl
    | cons e effs ih =>
      intro hh hq id
      simp only [applyEff, List.foldl_cons]
      have hset_eq : ∀ id, hget (hset hh e.1 e.2) id = hget hh id := by
        intro id
        rw [hget_hset]
        split
        · rename_i e1; rw [← e1]; exact (hq e List.mem_cons_self).symm
        · rfl
      have := ih (hset hh e.1 e.2) (fun e' he' => by rw [hset_eq]; exact hq e' (List.mem_cons_of_mem _ he')) id
      rw [hset_eq] at this
      exact this
  refine ⟨v, ρ', M', he, ⟨h1.1, fun id _ => ?_⟩, h2, ?_, h4⟩
  · by_cases hc : ∃ e ∈ effs, e.1 = id
    · obtain ⟨e, he, rfl⟩ := hc
      obtain ⟨_, r, hr⟩ := hid e he
      rw [hr]
      exact h1.1 _ _ hr
    · exact h1.2 id fun e he hh => hc ⟨e, he, hh⟩
  · refine SimH.congr h3 (fun id => (hget_eq effs hh (fun e he => (hid e he).1) id).symm) fun id hl => ?_
    by_cases hc : ∃ e ∈ effs, e.1 = id
    · obtain ⟨e, he, rfl⟩ := hc
      obtain ⟨_, r, hr⟩ := hid e he
      have := H.fresh e.1 hl
      rw [this] at hr
      cases hr
    · rw [h1.2 id fun e he hh => hc ⟨e, he, hh⟩]
      exact H.fresh id hl
end Go.Eng
namespace Go.Eng

theorem wrap_i64 {n : Int} (h1 : -9223372036854775808 ≤ n) (h2 : n ≤ 9223372036854775807) : IntKind.i64.wrap n = n := by
  simp [IntKind.wrap, IntKind.min, IntKind.max, IntKind.signed, IntKind.bits] <;> (try split) <;> omega
theorem wrap_u64 {n : Int} (h1 : 0 ≤ n) (h2 : n ≤ 18446744073709551615) : IntKind.u64.wrap n = n := by
  simp [IntKind.wrap, IntKind.min, IntKind.max, IntKind.signed, IntKind.bits] <;> (try split) <;> omega
theorem wrap_u8 {n : Int} (h1 : 0 ≤ n) (h2 : n ≤ 255) : IntKind.u8.wrap n = n := by
  simp [IntKind.wrap, IntKind.min, IntKind.max, IntKind.signed, IntKind.bits] <;> (try split) <;> omega
theorem wrap_succ {i : Nat} (h : i < 9223372036854775807) : IntKind.i64.wrap ((i : Int) + 1) = ((i + 1 : Nat) : Int) := by
  rw [wrap_i64] <;> omega
theorem byteAt_get {s : ByteArray} {i : Nat} (h : i < s.size) : byteAt s (i : Int) = ((s.data.toList[i]'(by simpa using h)).toNat : Int) := by
  have hd : s.data.getD i 0 = s.data.toList[i]'(by simpa using h) := by
    have : i < s.data.size := h
    simp only [Array.getD, this, dif_pos, Array.getElem_toList, Array.getInternal_eq_getElem]
  simp only [byteAt, Int.toNat_natCast, hd]
end Go.Eng
