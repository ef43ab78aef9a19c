/- Leases: lease.Try, which defers. -/
import Derived.Test.YtofimhodpemmiaaCaught
import Derived.Test.YtofimhodpemmiaaEng16
set_option maxRecDepth 100000
namespace Go.Proofs.Ytofimhodpemmiaa
open Go Go.Eng

/-- What lease.Try comes to: the holder, the end, the term; the error. -/
def tryF (lh : ByteArray) (lu lt : Int) (w : ByteArray) (n p : Int) : ByteArray × Int × Int × Int :=
  cond (nameF w)
    (cond (cond (cond (decide (p ≥ (1 : Int))) (decide (p ≤ (1099511627776 : Int))) false) (decide (n ≤ (1152921504606846976 : Int))) false)
      (cond (cond (decide (lh = (⟨#[]⟩ : ByteArray))) true (decide (n ≥ lu)))
        (w, IntKind.u64.wrap (n + p), IntKind.u64.wrap (lt + (1 : Int)), 0)
        (cond (decide (lh = w)) (lh, (if (IntKind.u64.wrap (n + p)) > lu then (IntKind.u64.wrap (n + p)) else lu), lt, 0) ((⟨#[]⟩ : ByteArray), 0, 0, 8)))
      ((⟨#[]⟩ : ByteArray), 0, 0, 3))
    ((⟨#[]⟩ : ByteArray), 0, 0, 2)
noncomputable def E2 : Env := envOf [name_fact, caught_fact] [must_fact] [] fun _ => none
def seq1 : Code → Code
  | .seq x _ => x
  | c => c
def seq2 : Code → Code
  | .seq _ y => y
  | c => c
def opsOf : Code → List Oper
  | .region _ ops _ => ops.toList
  | _ => []
noncomputable def rest11 : Code := seq2 (seq2 (bodyOf Try.f11))
noncomputable def reg11 : List Oper := opsOf (seq1 (seq2 (bodyOf Try.f11)))
def lease3 (a : ByteArray) (b c : Int) : AObj := .cells 25 [.str a, .int .u64 b, .int .u64 c]
def s0 (lh : ByteArray) (lu lt : Int) (w : ByteArray) (n p : Int) : St :=
  ⟨slots 55 [(0, .agg [.str lh, .int .u64 lu, .int .u64 lt]), (1, .str w), (2, .int .u64 n), (3, .int .u64 p), (4, .ptr 0 0), (8, .ptr 1 0), (9, .ptr 2 0)], [lease3 lh lu lt, lease3 ⟨#[]⟩ 0 0, .cells 28 [.int .i64 0]]⟩
def s1 (lh : ByteArray) (lu lt : Int) (w : ByteArray) (n p : Int) : St :=
  ⟨slots 55 [(0, .agg [.str lh, .int .u64 lu, .int .u64 lt]), (1, .str w), (2, .int .u64 n), (3, .int .u64 p), (4, .ptr 0 0), (8, .ptr 1 0), (9, .ptr 2 0), (10, .fn 25 [.ptr 2 0, .ptr 1 0])], [lease3 lh lu lt, lease3 ⟨#[]⟩ 0 0, .cells 28 [.int .i64 0]]⟩
def sR (a : ByteArray) (b c : Int) : St := ⟨slots 55 [(8, .ptr 1 0), (9, .ptr 2 0)], [.dead, lease3 a b c, .cells 28 [.int .i64 0]]⟩
abbrev pan (n : Int) : List PanicEntry := [{ v := .iface 64 (.agg #[.int .i64 n]), recovered := false }]
def R11 (lh : ByteArray) (lu lt : Int) (w : ByteArray) (n p : Int) : Tree :=
  (.ask (nameF w)
    (.ask (cond (cond (decide (p ≥ (1 : Int))) (decide (p ≤ (1099511627776 : Int))) false) (decide (n ≤ (1152921504606846976 : Int))) false)
      (.ask (cond (decide (lh = (⟨#[]⟩ : ByteArray))) true (decide (n ≥ lu)))
        (.leaf .ret (sR w (IntKind.u64.wrap (n + p)) (IntKind.u64.wrap (lt + (1 : Int)))))
        (.ask (decide (lh = w))
          (.leaf .ret (sR lh (if (IntKind.u64.wrap (n + p)) > lu then (IntKind.u64.wrap (n + p)) else lu) lt))
          (.leaf (.panic (pan 8)) (sR ⟨#[]⟩ 0 0))))
      (.leaf (.panic (pan 3)) (sR ⟨#[]⟩ 0 0)))
    (.leaf (.panic (pan 2)) (sR ⟨#[]⟩ 0 0)))
def Q11 (lh : ByteArray) (lu lt : Int) (w : ByteArray) (n p : Int) (e : Exit) (s : St) : Prop :=
  (e = .ret ∧ ∃ a b c, s = sR a b c ∧ tryF lh lu lt w n p = (a, b, c, 0)) ∨ (∃ k : Int, e = .panic (pan k) ∧ (k == 0) = false ∧ s = sR ⟨#[]⟩ 0 0 ∧ tryF lh lu lt w n p = ((⟨#[]⟩ : ByteArray), 0, 0, k))
theorem try_rest (lh : ByteArray) (lu lt : Int) (w : ByteArray) (n p : Int) (hw : w.size < 9223372036854775807) : Tr Try.prog 3 rest11 (s1 lh lu lt w n p) (Q11 lh lu lt w n p) := by
  refine Tr_tree (kok _ _ _ _) (E := E2) (L := noLoops) 60 9999 .none (R11 lh lu lt w n p) (by kernel_rfl) (by kernel_rfl) ?_ (by kernel_rfl) ?_
  · intro o ho _
    rw [show obl (evCode E2 noLoops 60 9999 rest11 (s1 lh lu lt w n p)) = [([], w.size < 9223372036854775807)] from by kernel_rfl] at ho
    obtain rfl := List.mem_singleton.1 ho
    exact hw
  · unfold R11
    refine ⟨fun h0 => ⟨fun h1 => ⟨fun h2 => ?_, fun h2 => ⟨fun h3 => ?_, fun h3 => ?_⟩⟩, fun h1 => ?_⟩, fun h0 => ?_⟩
    · exact .inl ⟨rfl, _, _, _, rfl, by simp only [tryF, h0, h1, h2, cond_true]⟩
    · exact .inl ⟨rfl, _, _, _, rfl, by simp only [tryF, h0, h1, h2, h3, cond_true, cond_false]⟩
    · exact .inr ⟨8, rfl, rfl, rfl, by simp only [tryF, h0, h1, h2, h3, cond_true, cond_false]⟩
    · exact .inr ⟨3, rfl, rfl, rfl, by simp only [tryF, h0, h1, cond_true, cond_false]⟩
    · exact .inr ⟨2, rfl, rfl, rfl, by simp only [tryF, h0, cond_false]⟩
theorem try_first (lh : ByteArray) (lu lt : Int) (w : ByteArray) (n p : Int) : Tr Try.prog 0 (seq1 (bodyOf Try.f11)) (fnBegins Try.f11 [.agg [.str lh, .int .u64 lu, .int .u64 lt], .str w, .int .u64 n, .int .u64 p] []) fun e s => e = .normal ∧ s = s0 lh lu lt w n p := by
  refine Tr_tree (kok _ _ _ _) (E := E2) (L := noLoops) 60 9999 .none (.leaf .normal (s0 lh lu lt w n p)) (by kernel_rfl) (by kernel_rfl) ?_ (by kernel_rfl) ⟨rfl, rfl⟩
  intro o ho
  rw [show obl (evCode E2 noLoops 60 9999 (seq1 (bodyOf Try.f11)) (fnBegins Try.f11 [.agg [.str lh, .int .u64 lu, .int .u64 lt], .str w, .int .u64 n, .int .u64 p] [])) = [] from by kernel_rfl] at ho
  cases ho
noncomputable def reg25 : List Oper := opsOf (seq1 (bodyOf Try.f25))
noncomputable def rest25 : Code := seq2 (bodyOf Try.f25)
def h25 (a : ByteArray) (b c : Int) (e : Int) : List AObj := [.dead, lease3 a b c, .cells 28 [.int .i64 e]]
/-- The deferred function, whatever was recovered. -/
theorem close25 {u : FrameMode} {rv : AV} {k : Int} (a : ByteArray) (b c : Int) (hu : (u = .returning ∧ rv = .nili) ∨ ∃ v, u = .panicking [{ v, recovered := false }] ∧ ∀ (ρ : Eng.Loc) (M : Mem), rep ρ M noG rv v) (hrv : ungrd [] rv = rv)
    (hargs : (([.ptr 2 0, .ptr 1 0] : List AV) ++ List.replicate (Try.f25.ntmps - 2) AV.unk).map (ungrd []) = ([.ptr 2 0, .ptr 1 0] : List AV) ++ List.replicate (Try.f25.ntmps - 2) AV.unk)
    (hrun : runS E2 reg25 reg25.tail ⟨putS reg25 (([.ptr 2 0, .ptr 1 0] : List AV) ++ List.replicate (Try.f25.ntmps - 2) AV.unk) (some 2) rv, h25 a b c 0⟩ = some ⟨slots 7 [(0, .ptr 2 0), (1, .ptr 1 0), (2, rv), (3, .int .i64 k)], h25 a b c k⟩)
    (hclean : cleanS ⟨slots 7 [(0, .ptr 2 0), (1, .ptr 1 0), (2, rv), (3, .int .i64 k)], h25 a b c k⟩ = ⟨slots 7 [(0, .ptr 2 0), (1, .ptr 1 0), (2, rv), (3, .int .i64 k)], h25 a b c k⟩)
    {B : Nat → Prop} {w0 w : World} {M0 M : Mem} {ρ : Eng.Loc} {vs : List Value} (H : SimH B w0 M0 (h25 a b c 0) w ρ M) (hvs : repL ρ M noG [.ptr 2 0, .ptr 1 0] vs) :
    CallsD Try.prog 25 ⟨vs⟩ u w fun e u' w' => e = .returned (.tuple #[]) ∧ settle u' = .returning ∧ ∃ s ρ' M', ((!(k == 0)) = true ∧ s = h25 ⟨#[]⟩ 0 0 k ∨ (!(k == 0)) = false ∧ s = h25 a b c k) ∧ kept 3 ρ ρ' ∧ M.le M' ∧ SimH B w0 M0 s w' ρ' M' := by
  have htr : Tr Try.prog 3 rest25 ⟨slots 7 [(0, .ptr 2 0), (1, .ptr 1 0), (2, rv), (3, .int .i64 k)], h25 a b c k⟩ fun e s => (e = .normal ∨ e = .ret) ∧ ((!(k == 0)) = true ∧ s.h = h25 ⟨#[]⟩ 0 0 k ∨ (!(k == 0)) = false ∧ s.h = h25 a b c k) := by
    refine Tr_tree (kok _ _ _ _) (E := E2) (L := noLoops) 60 9999 .none (.ask (!(k == 0)) (.leaf .normal ⟨slots 7 [], h25 ⟨#[]⟩ 0 0 k⟩) (.leaf .normal ⟨slots 7 [], h25 a b c k⟩)) (by kernel_rfl) (by kernel_rfl) ?_ (by kernel_rfl) ?_
    · intro o ho
      rw [show obl (evCode E2 noLoops 60 9999 rest25 ⟨slots 7 [(0, .ptr 2 0), (1, .ptr 1 0), (2, rv), (3, .int .i64 k)], h25 a b c k⟩) = [] from by kernel_rfl] at ho
      cases ho
    · exact ⟨fun h => ⟨.inl rfl, .inl ⟨h, rfl⟩⟩, fun h => ⟨.inl rfl, .inr ⟨h, rfl⟩⟩⟩
  have := deferred_sound (E := E2) (kok _ _ _ _) (f := 25) (fn := Try.f25) (id := 0) (o := reg25.headD default) (ops := reg25.tail) (rest := rest25) (by kernel_rfl) (by kernel_rfl) (by kernel_rfl) (fun a w => by kernel_rfl) (by kernel_rfl)
    (args := [.ptr 2 0, .ptr 1 0]) (h := h25 a b c 0) (Q1 := fun s => (!(k == 0)) = true ∧ s.h = h25 ⟨#[]⟩ 0 0 k ∨ (!(k == 0)) = false ∧ s.h = h25 a b c k) hu hargs hrv hrun (by rw [hclean]; exact htr) H hvs
  refine this.mono fun e u' w' ⟨h1, h2, s, ρ', M', h3, h4, h5, h6⟩ => ⟨h1, h2, s.h, ρ', M', h3, h4, h5, h6⟩
end Go.Proofs.Ytofimhodpemmiaa
