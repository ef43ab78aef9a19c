/- Leases: the document. -/
import Derived.Test.YtofimhodpemmiaaFun
set_option maxRecDepth 100000
namespace Go.Proofs.Ytofimhodpemmiaa
open Go Go.Eng

noncomputable def E1 : Env := envOf [name_fact, rname_fact, mine_fact, rmine_fact, ref_fact, rel_fact, rrel_fact] [] [] fun _ => none
def rtryF (lh : ByteArray) (lu : Int) (lt : Int) (w : ByteArray) (n : Int) (p : Int) : ByteArray × Int × Int × Int :=
  cond (!(rnameF w))
    ((⟨#[]⟩ : ByteArray), (0 : Int), (0 : Int), (2 : Int))
    (cond (cond (cond (decide (p < (1 : Int))) true (decide (p > (1099511627776 : Int)))) true (decide (n > (1152921504606846976 : Int))))
    ((⟨#[]⟩ : ByteArray), (0 : Int), (0 : Int), (3 : Int))
    (cond (rmineF lh lu lt w n)
    (cond (decide ((IntKind.u64.wrap (n + p)) < lu))
    (w, lu, lt, (0 : Int))
    (w, (IntKind.u64.wrap (n + p)), lt, (0 : Int)))
    (cond (cond (!(decide (lh = (⟨#[]⟩ : ByteArray)))) (decide (n < lu)) false)
    ((⟨#[]⟩ : ByteArray), (0 : Int), (0 : Int), (8 : Int))
    (w, (IntKind.u64.wrap (n + p)), (IntKind.u64.wrap (lt + (1 : Int))), (0 : Int)))))
def rtryR (lh : ByteArray) (lu : Int) (lt : Int) (w : ByteArray) (n : Int) (p : Int) : Tree :=
  (.ask (!(rnameF w))
    (.leaf .ret ⟨slots 66 [(8, .ptr 1 0), (9, .int .i64 2)], [.dead, .cells 35 [.str (⟨#[]⟩ : ByteArray), .int .u64 0, .int .u64 0]]⟩)
    (.ask (cond (cond (decide (p < (1 : Int))) true (decide (p > (1099511627776 : Int)))) true (decide (n > (1152921504606846976 : Int))))
      (.leaf .ret ⟨slots 66 [(8, .ptr 1 0), (9, .int .i64 3)], [.dead, .cells 35 [.str (⟨#[]⟩ : ByteArray), .int .u64 0, .int .u64 0]]⟩)
      (.ask (rmineF lh lu lt w n)
        (.ask (decide ((IntKind.u64.wrap (n + p)) < lu))
          (.leaf .ret ⟨slots 66 [(8, .ptr 1 0), (9, .int .i64 0)], [.dead, .cells 35 [.str w, .int .u64 lu, .int .u64 lt]]⟩)
          (.leaf .ret ⟨slots 66 [(8, .ptr 1 0), (9, .int .i64 0)], [.dead, .cells 35 [.str w, .int .u64 (IntKind.u64.wrap (n + p)), .int .u64 lt]]⟩))
        (.ask (cond (!(decide (lh = (⟨#[]⟩ : ByteArray)))) (decide (n < lu)) false)
          (.leaf .ret ⟨slots 66 [(8, .ptr 1 0), (9, .int .i64 8)], [.dead, .cells 35 [.str (⟨#[]⟩ : ByteArray), .int .u64 0, .int .u64 0]]⟩)
          (.leaf .ret ⟨slots 66 [(8, .ptr 1 0), (9, .int .i64 0)], [.dead, .cells 35 [.str w, .int .u64 (IntKind.u64.wrap (n + p)), .int .u64 (IntKind.u64.wrap (lt + (1 : Int)))]]⟩)))))
theorem rtry_tr (lh : ByteArray) (lu : Int) (lt : Int) (w : ByteArray) (n : Int) (p : Int) (hw : w.size < 9223372036854775807) : Tr Try.prog 0 (bodyOf Try.f14) (fnBegins Try.f14 [.agg [.str lh, .int .u64 lu, .int .u64 lt], .str w, .int .u64 n, .int .u64 p] []) (fnEnds Try.prog Try.f14 (.tup [.agg [.str ((rtryF lh lu lt w n p).1), .int .u64 ((rtryF lh lu lt w n p).2.1), .int .u64 ((rtryF lh lu lt w n p).2.2.1)], .int .i64 ((rtryF lh lu lt w n p).2.2.2)]) []) := by
  refine Tr_tree (kok _ _ _ _) (E := E1) (L := noLoops) 60 9999 LoopsOk.none (rtryR lh lu lt w n p) (by kernel_rfl) (by kernel_rfl) ?_ (by kernel_rfl) ?_
  · intro o ho hway
    rw [show obl (evCode E1 noLoops 60 9999 (bodyOf Try.f14) (fnBegins Try.f14 [.agg [.str lh, .int .u64 lu, .int .u64 lt], .str w, .int .u64 n, .int .u64 p] [])) = [([], w.size < 9223372036854775807)] from by kernel_rfl] at ho
    obtain rfl := List.mem_singleton.1 ho
    · first | assumption | omega
  · unfold rtryR
    refine ⟨fun h0 => ?_, fun h0 => ?_⟩
    · exact ⟨trivial, by rw [show rtryF lh lu lt w n p = ((⟨#[]⟩ : ByteArray), (0 : Int), (0 : Int), (2 : Int)) from by simp only [rtryF, h0, cond_true, cond_false]]; kernel_rfl, by kernel_rfl⟩
    · refine ⟨fun h1 => ?_, fun h1 => ?_⟩
      · exact ⟨trivial, by rw [show rtryF lh lu lt w n p = ((⟨#[]⟩ : ByteArray), (0 : Int), (0 : Int), (3 : Int)) from by simp only [rtryF, h0, h1, cond_true, cond_false]]; kernel_rfl, by kernel_rfl⟩
      · refine ⟨fun h2 => ?_, fun h2 => ?_⟩
        · refine ⟨fun h3 => ?_, fun h3 => ?_⟩
          · exact ⟨trivial, by rw [show rtryF lh lu lt w n p = (w, lu, lt, (0 : Int)) from by simp only [rtryF, h0, h1, h2, h3, cond_true, cond_false]]; kernel_rfl, by kernel_rfl⟩
          · exact ⟨trivial, by rw [show rtryF lh lu lt w n p = (w, (IntKind.u64.wrap (n + p)), lt, (0 : Int)) from by simp only [rtryF, h0, h1, h2, h3, cond_true, cond_false]]; kernel_rfl, by kernel_rfl⟩
        · refine ⟨fun h3 => ?_, fun h3 => ?_⟩
          · exact ⟨trivial, by rw [show rtryF lh lu lt w n p = ((⟨#[]⟩ : ByteArray), (0 : Int), (0 : Int), (8 : Int)) from by simp only [rtryF, h0, h1, h2, h3, cond_true, cond_false]]; kernel_rfl, by kernel_rfl⟩
          · exact ⟨trivial, by rw [show rtryF lh lu lt w n p = (w, (IntKind.u64.wrap (n + p)), (IntKind.u64.wrap (lt + (1 : Int))), (0 : Int)) from by simp only [rtryF, h0, h1, h2, h3, cond_true, cond_false]]; kernel_rfl, by kernel_rfl⟩
def rtryK : List AV → List AObj → Nat → Option Out
  | [.agg [.str lh, .int .u64 lu, .int .u64 lt], .str w, .int .u64 n, .int .u64 p], _, _ => some (.tup [.agg [.str ((rtryF lh lu lt w n p).1), .int .u64 ((rtryF lh lu lt w n p).2.1), .int .u64 ((rtryF lh lu lt w n p).2.2.1)], .int .i64 ((rtryF lh lu lt w n p).2.2.2)], [], [w.size < 9223372036854775807])
  | _, _, _ => none
noncomputable def rtry_fact : Fact Try.prog where
  f := 14
  K := rtryK
  ent := ent_of (fn := Try.f14) (by kernel_rfl) rfl (by kernel_rfl)
  ok := fun args h nid x effs need hk hn => by
    unfold rtryK at hk
    split at hk
    · simp only [Option.some.injEq, Prod.mk.injEq] at hk
      obtain ⟨rfl, rfl, rfl⟩ := hk
      exact sound_pure (fn := Try.f14) (by kernel_rfl) rfl (by kernel_rfl) (by kernel_rfl) (rtry_tr _ _ _ _ _ _ (hn _ List.mem_cons_self)) _ _
    · cases hk
end Go.Proofs.Ytofimhodpemmiaa
