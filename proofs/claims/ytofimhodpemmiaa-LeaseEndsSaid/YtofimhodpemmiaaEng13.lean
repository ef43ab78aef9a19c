/- The engine, part 13: what is known of functions, kept in lists. -/
import Derived.Test.YtofimhodpemmiaaEng12
import Derived.Conc.MuLone
namespace Go.Eng

/-- What is known of a function: its result and what it makes of objects. -/
structure Fact (P : Program) where
  f : FuncId
  K : List AV → List AObj → Nat → Option Out
  ent : ∀ (vs : Array Value) (w : World), (callFunc f vs).run P w = .ok (.enter f vs) w
  ok : ∀ args h nid x effs need, K args h nid = some (x, effs, need) → (∀ p ∈ need, p) → KSound P f args h nid x effs
/-- Of one that may panic. -/
structure FactP (P : Program) where
  f : FuncId
  K : List AV → Option (Bool × Value)
  ent : ∀ (vs : Array Value) (w : World), (callFunc f vs).run P w = .ok (.enter f vs) w
  ok : ∀ args b pv, K args = some (b, pv) → KPSound P f args b pv
/-- Of one that comes back in one of two ways. -/
structure FactB (P : Program) where
  f : FuncId
  K : List AV → List AObj → Nat → Option (Bool × Out × Out)
  ent : ∀ (vs : Array Value) (w : World), (callFunc f vs).run P w = .ok (.enter f vs) w
  ok : ∀ args h nid b x1 e1 n1 x2 e2 n2, K args h nid = some (b, (x1, e1, n1), (x2, e2, n2)) → (b = true → (∀ p ∈ n1, p) → KSound P f args h nid x1 e1) ∧ (b = false → (∀ p ∈ n2, p) → KSound P f args h nid x2 e2)
/-- The fact of function f. -/
def factOf {P : Program} (f : FuncId) : List (Fact P) → Option (Fact P)
  | [] => none
  | x :: r => if x.f = f then some x else factOf f r
def factOfP {P : Program} (f : FuncId) : List (FactP P) → Option (FactP P)
  | [] => none
  | x :: r => if x.f = f then some x else factOfP f r
def factOfB {P : Program} (f : FuncId) : List (FactB P) → Option (FactB P)
  | [] => none
  | x :: r => if x.f = f then some x else factOfB f r
theorem factOf_f {P : Program} {f : FuncId} {x : Fact P} : ∀ {l : List (Fact P)}, factOf f l = some x → x.f = f
  | [], h => by cases h
  | y :: r, h => by
    unfold factOf at h
    split at h
    · injection h with h; subst h; assumption
    · exact factOf_f h
theorem factOfP_f {P : Program} {f : FuncId} {x : FactP P} : ∀ {l : List (FactP P)}, factOfP f l = some x → x.f = f
  | [], h => by cases h
  | y :: r, h => by
    unfold factOfP at h
    split at h
    · injection h with h; subst h; assumption
    · exact factOfP_f h
theorem factOfB_f {P : Program} {f : FuncId} {x : FactB P} : ∀ {l : List (FactB P)}, factOfB f l = some x → x.f = f
  | [], h => by cases h
  | y :: r, h => by
    unfold factOfB at h
    split at h
    · injection h with h; subst h; assumption
    · exact factOfB_f h
def envOf {P : Program} (ks : List (Fact P)) (ps : List (FactP P)) (bs : List (FactB P)) (ck : TypeId → Option Coll) : Env where
  P := P
  K := fun f args h nid => match factOf f ks with
    | some x => x.K args h nid
    | none => none
  KP := fun f args => match factOfP f ps with
    | some x => x.K args
    | none => none
  KB := fun f args h nid => match factOfB f bs with
    | some x => x.K args h nid
    | none => none
  ck := ck
theorem kok {P : Program} (ks : List (Fact P)) (ps : List (FactP P)) (bs : List (FactB P)) (ck : TypeId → Option Coll) : KOk (envOf ks ps bs ck) where
  pEnters := fun f args r h vs w => by
    simp only [envOf] at h
    split at h
    · rename_i x hx
      have := factOfP_f hx
      subst this
      exact x.ent vs w
    · cases h
  pSound := fun f args b pv h => by
    simp only [envOf] at h
    split at h
    · rename_i x hx
      have := factOfP_f hx
      subst this
      exact x.ok _ _ _ h
    · cases h
  bEnters := fun f args hh nid r h vs w => by
    simp only [envOf] at h
    split at h
    · rename_i x hx
      have := factOfB_f hx
      subst this
      exact x.ent vs w
    · cases h
  bSound := fun f args hh nid b x1 e1 n1 x2 e2 n2 h => by
    simp only [envOf] at h
    split at h
    · rename_i x hx
      have := factOfB_f hx
      subst this
      exact x.ok _ _ _ _ _ _ _ _ _ _ h
    · cases h
  enters := fun f args hh nid r h vs w => by
    simp only [envOf] at h
    split at h
    · rename_i x hx
      have := factOf_f hx
      subst this
      exact x.ent vs w
    · cases h
  sound := fun f args hh nid x effs need h hn => by
    simp only [envOf] at h
    split at h
    · rename_i y hy
      have := factOf_f hy
      subst this
      exact y.ok _ _ _ _ _ _ h hn
    · cases h
theorem ent_of {P : Program} {f : FuncId} {fn : Func} {c : Code} (hf : P.funcs[f]? = some fn) (hb : fn.body = some c) (hname : (fn.name == "runtime.NumGoroutine") = false) (vs : Array Value) (w : World) :
    (callFunc f vs).run P w = .ok (.enter f vs) w := Go.MuLone.run_callFunc_enter hf hname hb vs w
/-- A function of plain values. -/
theorem sound_pure {P : Program} {f : FuncId} {fn : Func} {c : Code} (hf : P.funcs[f]? = some fn) (hb : fn.body = some c) {args : List AV} {x : AV} (hin : okIn 0 args [] = true) (hout : okOut 0 x [] = true)
    (h : Tr P 0 c (fnBegins fn args []) (fnEnds P fn x [])) (hr : List AObj) (nid : Nat) (hra : renL (sig [] nid) args = args := by rfl) (hrx : ren (sig [] nid) x = x := by rfl) : KSound P f args hr nid x [] := by
  have := sound_of_Tr hf hb (ids := []) (h0 := []) (h1 := []) h hin hout (hr := hr) (nid := nid) (by simp [okIds]) (by simp)
  rw [hra, hrx] at this
  exact this
end Go.Eng
