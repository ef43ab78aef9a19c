/- Leases: functions without calls. -/
import Derived.Test.YtofimhodpemmiaaName2
set_option maxRecDepth 100000
namespace Go.Proofs.Ytofimhodpemmiaa
open Go Go.Eng

def mineF (lh : ByteArray) (lu : Int) (lt : Int) (w : ByteArray) (n : Int) : Bool :=
  cond (cond (!(decide (lh = (⟨#[]⟩ : ByteArray)))) (decide (lh = w)) false) (decide (lu > n)) false
def mineR (lh : ByteArray) (lu : Int) (lt : Int) (w : ByteArray) (n : Int) : Tree :=
  (.leaf .ret ⟨slots 22 [(6, .bool (cond (cond (!(decide (lh = (⟨#[]⟩ : ByteArray)))) (decide (lh = w)) false) (decide (lu > n)) false))], []⟩)
theorem mine_tr (lh : ByteArray) (lu : Int) (lt : Int) (w : ByteArray) (n : Int) : Tr Try.prog 0 (bodyOf Try.f12) (fnBegins Try.f12 [.agg [.str lh, .int .u64 lu, .int .u64 lt], .str w, .int .u64 n] []) (fnEnds Try.prog Try.f12 (.bool (mineF lh lu lt w n)) []) := by
  refine Tr_tree (kok _ _ _ _) (E := E0) (L := noLoops) 60 9999 LoopsOk.none (mineR lh lu lt w n) (by kernel_rfl) (by kernel_rfl) ?_ (by kernel_rfl) ?_
  · intro o ho; exact absurd ho (by rw [show obl (evCode E0 noLoops 60 9999 (bodyOf Try.f12) (fnBegins Try.f12 [.agg [.str lh, .int .u64 lu, .int .u64 lt], .str w, .int .u64 n] [])) = [] from by kernel_rfl]; simp)
  · unfold mineR
    exact ⟨trivial, by kernel_rfl, by kernel_rfl⟩
def mineK : List AV → List AObj → Nat → Option Out
  | [.agg [.str lh, .int .u64 lu, .int .u64 lt], .str w, .int .u64 n], _, _ => some (.bool (mineF lh lu lt w n), [], [])
  | _, _, _ => none
noncomputable def mine_fact : Fact Try.prog where
  f := 12
  K := mineK
  ent := ent_of (fn := Try.f12) (by kernel_rfl) rfl (by kernel_rfl)
  ok := fun args h nid x effs need hk hn => by
    unfold mineK at hk
    split at hk
    · simp only [Option.some.injEq, Prod.mk.injEq] at hk
      obtain ⟨rfl, rfl, rfl⟩ := hk
      exact sound_pure (fn := Try.f12) (by kernel_rfl) rfl (by kernel_rfl) (by kernel_rfl) (mine_tr _ _ _ _ _ ) _ _
    · cases hk
def rmineF (lh : ByteArray) (lu : Int) (lt : Int) (w : ByteArray) (n : Int) : Bool :=
  cond (cond (!(decide (w = (⟨#[]⟩ : ByteArray)))) (decide (lh = w)) false) (decide (n < lu)) false
def rmineR (lh : ByteArray) (lu : Int) (lt : Int) (w : ByteArray) (n : Int) : Tree :=
  (.leaf .ret ⟨slots 21 [(6, .bool (cond (cond (!(decide (w = (⟨#[]⟩ : ByteArray)))) (decide (lh = w)) false) (decide (n < lu)) false))], []⟩)
theorem rmine_tr (lh : ByteArray) (lu : Int) (lt : Int) (w : ByteArray) (n : Int) : Tr Try.prog 0 (bodyOf Try.f18) (fnBegins Try.f18 [.agg [.str lh, .int .u64 lu, .int .u64 lt], .str w, .int .u64 n] []) (fnEnds Try.prog Try.f18 (.bool (rmineF lh lu lt w n)) []) := by
  refine Tr_tree (kok _ _ _ _) (E := E0) (L := noLoops) 60 9999 LoopsOk.none (rmineR lh lu lt w n) (by kernel_rfl) (by kernel_rfl) ?_ (by kernel_rfl) ?_
  · intro o ho; exact absurd ho (by rw [show obl (evCode E0 noLoops 60 9999 (bodyOf Try.f18) (fnBegins Try.f18 [.agg [.str lh, .int .u64 lu, .int .u64 lt], .str w, .int .u64 n] [])) = [] from by kernel_rfl]; simp)
  · unfold rmineR
    exact ⟨trivial, by kernel_rfl, by kernel_rfl⟩
def rmineK : List AV → List AObj → Nat → Option Out
  | [.agg [.str lh, .int .u64 lu, .int .u64 lt], .str w, .int .u64 n], _, _ => some (.bool (rmineF lh lu lt w n), [], [])
  | _, _, _ => none
noncomputable def rmine_fact : Fact Try.prog where
  f := 18
  K := rmineK
  ent := ent_of (fn := Try.f18) (by kernel_rfl) rfl (by kernel_rfl)
  ok := fun args h nid x effs need hk hn => by
    unfold rmineK at hk
    split at hk
    · simp only [Option.some.injEq, Prod.mk.injEq] at hk
      obtain ⟨rfl, rfl, rfl⟩ := hk
      exact sound_pure (fn := Try.f18) (by kernel_rfl) rfl (by kernel_rfl) (by kernel_rfl) (rmine_tr _ _ _ _ _ ) _ _
    · cases hk
def refF (lh : ByteArray) (lu : Int) (lt : Int) : ByteArray × Int × Int :=
  (lh, lu, lt)
def refR (lh : ByteArray) (lu : Int) (lt : Int) : Tree :=
  (.leaf .ret ⟨slots 10 [(2, .ptr 1 0)], [.dead, .cells 35 [.str lh, .int .u64 lu, .int .u64 lt]]⟩)
theorem ref_tr (lh : ByteArray) (lu : Int) (lt : Int) : Tr Try.prog 0 (bodyOf Try.f15) (fnBegins Try.f15 [.agg [.str lh, .int .u64 lu, .int .u64 lt]] []) (fnEnds Try.prog Try.f15 (.agg [.str ((refF lh lu lt).1), .int .u64 ((refF lh lu lt).2.1), .int .u64 ((refF lh lu lt).2.2)]) []) := by
  refine Tr_tree (kok _ _ _ _) (E := E0) (L := noLoops) 60 9999 LoopsOk.none (refR lh lu lt) (by kernel_rfl) (by kernel_rfl) ?_ (by kernel_rfl) ?_
  · intro o ho; exact absurd ho (by rw [show obl (evCode E0 noLoops 60 9999 (bodyOf Try.f15) (fnBegins Try.f15 [.agg [.str lh, .int .u64 lu, .int .u64 lt]] [])) = [] from by kernel_rfl]; simp)
  · unfold refR
    exact ⟨trivial, by kernel_rfl, by kernel_rfl⟩
def refK : List AV → List AObj → Nat → Option Out
  | [.agg [.str lh, .int .u64 lu, .int .u64 lt]], _, _ => some (.agg [.str ((refF lh lu lt).1), .int .u64 ((refF lh lu lt).2.1), .int .u64 ((refF lh lu lt).2.2)], [], [])
  | _, _, _ => none
noncomputable def ref_fact : Fact Try.prog where
  f := 15
  K := refK
  ent := ent_of (fn := Try.f15) (by kernel_rfl) rfl (by kernel_rfl)
  ok := fun args h nid x effs need hk hn => by
    unfold refK at hk
    split at hk
    · simp only [Option.some.injEq, Prod.mk.injEq] at hk
      obtain ⟨rfl, rfl, rfl⟩ := hk
      exact sound_pure (fn := Try.f15) (by kernel_rfl) rfl (by kernel_rfl) (by kernel_rfl) (ref_tr _ _ _ ) _ _
    · cases hk
def relF (lh : ByteArray) (lu : Int) (lt : Int) (w : ByteArray) : ByteArray × Int × Int × Int :=
  cond (cond (decide (lh = (⟨#[]⟩ : ByteArray))) true (!(decide (lh = w))))
    ((⟨#[]⟩ : ByteArray), (0 : Int), (0 : Int), (8 : Int))
    ((⟨#[]⟩ : ByteArray), (0 : Int), lt, (0 : Int))
def relR (lh : ByteArray) (lu : Int) (lt : Int) (w : ByteArray) : Tree :=
  (.ask (cond (decide (lh = (⟨#[]⟩ : ByteArray))) true (!(decide (lh = w))))
    (.leaf .ret ⟨slots 19 [(4, .ptr 1 0), (5, .int .i64 8)], [.dead, .cells 25 [.str (⟨#[]⟩ : ByteArray), .int .u64 0, .int .u64 0]]⟩)
    (.leaf .ret ⟨slots 19 [(4, .ptr 1 0), (5, .int .i64 0)], [.dead, .cells 25 [.str (⟨#[]⟩ : ByteArray), .int .u64 0, .int .u64 lt]]⟩))
theorem rel_tr (lh : ByteArray) (lu : Int) (lt : Int) (w : ByteArray) : Tr Try.prog 0 (bodyOf Try.f16) (fnBegins Try.f16 [.agg [.str lh, .int .u64 lu, .int .u64 lt], .str w] []) (fnEnds Try.prog Try.f16 (.tup [.agg [.str ((relF lh lu lt w).1), .int .u64 ((relF lh lu lt w).2.1), .int .u64 ((relF lh lu lt w).2.2.1)], .int .i64 ((relF lh lu lt w).2.2.2)]) []) := by
  refine Tr_tree (kok _ _ _ _) (E := E0) (L := noLoops) 60 9999 LoopsOk.none (relR lh lu lt w) (by kernel_rfl) (by kernel_rfl) ?_ (by kernel_rfl) ?_
  · intro o ho; exact absurd ho (by rw [show obl (evCode E0 noLoops 60 9999 (bodyOf Try.f16) (fnBegins Try.f16 [.agg [.str lh, .int .u64 lu, .int .u64 lt], .str w] [])) = [] from by kernel_rfl]; simp)
  · unfold relR
    refine ⟨fun h0 => ?_, fun h0 => ?_⟩
    · exact ⟨trivial, by rw [show relF lh lu lt w = ((⟨#[]⟩ : ByteArray), (0 : Int), (0 : Int), (8 : Int)) from by simp only [relF, h0, cond_true, cond_false]]; kernel_rfl, by kernel_rfl⟩
    · exact ⟨trivial, by rw [show relF lh lu lt w = ((⟨#[]⟩ : ByteArray), (0 : Int), lt, (0 : Int)) from by simp only [relF, h0, cond_true, cond_false]]; kernel_rfl, by kernel_rfl⟩
def relK : List AV → List AObj → Nat → Option Out
  | [.agg [.str lh, .int .u64 lu, .int .u64 lt], .str w], _, _ => some (.tup [.agg [.str ((relF lh lu lt w).1), .int .u64 ((relF lh lu lt w).2.1), .int .u64 ((relF lh lu lt w).2.2.1)], .int .i64 ((relF lh lu lt w).2.2.2)], [], [])
  | _, _, _ => none
noncomputable def rel_fact : Fact Try.prog where
  f := 16
  K := relK
  ent := ent_of (fn := Try.f16) (by kernel_rfl) rfl (by kernel_rfl)
  ok := fun args h nid x effs need hk hn => by
    unfold relK at hk
    split at hk
    · simp only [Option.some.injEq, Prod.mk.injEq] at hk
      obtain ⟨rfl, rfl, rfl⟩ := hk
      exact sound_pure (fn := Try.f16) (by kernel_rfl) rfl (by kernel_rfl) (by kernel_rfl) (rel_tr _ _ _ _ ) _ _
    · cases hk
def rrelF (lh : ByteArray) (lu : Int) (lt : Int) (w : ByteArray) : ByteArray × Int × Int × Int :=
  cond (cond (decide (w = (⟨#[]⟩ : ByteArray))) true (!(decide (lh = w))))
    ((⟨#[]⟩ : ByteArray), (0 : Int), (0 : Int), (8 : Int))
    ((⟨#[]⟩ : ByteArray), (0 : Int), lt, (0 : Int))
def rrelR (lh : ByteArray) (lu : Int) (lt : Int) (w : ByteArray) : Tree :=
  (.ask (cond (decide (w = (⟨#[]⟩ : ByteArray))) true (!(decide (lh = w))))
    (.leaf .ret ⟨slots 18 [(4, .ptr 1 0), (5, .int .i64 8)], [.dead, .cells 35 [.str (⟨#[]⟩ : ByteArray), .int .u64 0, .int .u64 0]]⟩)
    (.leaf .ret ⟨slots 18 [(4, .ptr 1 0), (5, .int .i64 0)], [.dead, .cells 35 [.str (⟨#[]⟩ : ByteArray), .int .u64 0, .int .u64 lt]]⟩))
theorem rrel_tr (lh : ByteArray) (lu : Int) (lt : Int) (w : ByteArray) : Tr Try.prog 0 (bodyOf Try.f17) (fnBegins Try.f17 [.agg [.str lh, .int .u64 lu, .int .u64 lt], .str w] []) (fnEnds Try.prog Try.f17 (.tup [.agg [.str ((rrelF lh lu lt w).1), .int .u64 ((rrelF lh lu lt w).2.1), .int .u64 ((rrelF lh lu lt w).2.2.1)], .int .i64 ((rrelF lh lu lt w).2.2.2)]) []) := by
  refine Tr_tree (kok _ _ _ _) (E := E0) (L := noLoops) 60 9999 LoopsOk.none (rrelR lh lu lt w) (by kernel_rfl) (by kernel_rfl) ?_ (by kernel_rfl) ?_
  · intro o ho; exact absurd ho (by rw [show obl (evCode E0 noLoops 60 9999 (bodyOf Try.f17) (fnBegins Try.f17 [.agg [.str lh, .int .u64 lu, .int .u64 lt], .str w] [])) = [] from by kernel_rfl]; simp)
  · unfold rrelR
    refine ⟨fun h0 => ?_, fun h0 => ?_⟩
    · exact ⟨trivial, by rw [show rrelF lh lu lt w = ((⟨#[]⟩ : ByteArray), (0 : Int), (0 : Int), (8 : Int)) from by simp only [rrelF, h0, cond_true, cond_false]]; kernel_rfl, by kernel_rfl⟩
    · exact ⟨trivial, by rw [show rrelF lh lu lt w = ((⟨#[]⟩ : ByteArray), (0 : Int), lt, (0 : Int)) from by simp only [rrelF, h0, cond_true, cond_false]]; kernel_rfl, by kernel_rfl⟩
def rrelK : List AV → List AObj → Nat → Option Out
  | [.agg [.str lh, .int .u64 lu, .int .u64 lt], .str w], _, _ => some (.tup [.agg [.str ((rrelF lh lu lt w).1), .int .u64 ((rrelF lh lu lt w).2.1), .int .u64 ((rrelF lh lu lt w).2.2.1)], .int .i64 ((rrelF lh lu lt w).2.2.2)], [], [])
  | _, _, _ => none
noncomputable def rrel_fact : Fact Try.prog where
  f := 17
  K := rrelK
  ent := ent_of (fn := Try.f17) (by kernel_rfl) rfl (by kernel_rfl)
  ok := fun args h nid x effs need hk hn => by
    unfold rrelK at hk
    split at hk
    · simp only [Option.some.injEq, Prod.mk.injEq] at hk
      obtain ⟨rfl, rfl, rfl⟩ := hk
      exact sound_pure (fn := Try.f17) (by kernel_rfl) rfl (by kernel_rfl) (by kernel_rfl) (rrel_tr _ _ _ _ ) _ _
    · cases hk
end Go.Proofs.Ytofimhodpemmiaa
