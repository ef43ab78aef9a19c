/- Leases: LeaseNone. -/
import Derived.Test.YtofimhodpemmiaaGuard
set_option maxRecDepth 100000
namespace Go.Proofs.Ytofimhodpemmiaa
open Go Go.Eng

noncomputable def E6 : Env := envOf [name_fact, rname_fact, mine_fact, rmine_fact, ref_fact, rel_fact, rrel_fact, rtry_fact, try_fact, live_fact, newg_fact, rnewg_fact, checkn_fact, check_fact, rcheck_fact, termn_fact, term_fact, forkn_fact, fork_fact] [must_fact] [] fun _ => none
def nonelF (x : Int) : Bool :=
  cond (cond (cond (cond liveF ((checknF x) == (1 : Int)) false) (termnF == (0 : Int)) false) true false)
    (((termF newgF).1) == (0 : Int))
    false
def nonelR (x : Int) : Tree :=
  (.ask (cond (cond (cond liveF ((checknF x) == (1 : Int)) false) (termnF == (0 : Int)) false) true false)
    (.leaf .ret ⟨slots 26 [(2, .bool (((termF newgF).1) == (0 : Int)))], []⟩)
    (.leaf .ret ⟨slots 26 [(2, .bool false)], []⟩))
theorem nonel_tr (x : Int) : Tr Try.prog 0 (bodyOf Try.f9) (fnBegins Try.f9 [.int .u64 x] []) (fnEnds Try.prog Try.f9 (.bool (nonelF x)) []) := by
  refine Tr_tree (kok _ _ _ _) (E := E6) (L := noLoops) 60 9999 LoopsOk.none (nonelR x) (by kernel_rfl) (by kernel_rfl) ?_ (by kernel_rfl) ?_
  · intro o ho; exact absurd ho (by rw [show obl (evCode E6 noLoops 60 9999 (bodyOf Try.f9) (fnBegins Try.f9 [.int .u64 x] [])) = [] from by kernel_rfl]; simp)
  · unfold nonelR
    refine ⟨fun h0 => ?_, fun h0 => ?_⟩
    · exact ⟨trivial, by rw [show nonelF x = (((termF newgF).1) == (0 : Int)) from by simp only [nonelF, h0, cond_true, cond_false]]; kernel_rfl, by kernel_rfl⟩
    · exact ⟨trivial, by rw [show nonelF x = false from by simp only [nonelF, h0, cond_true, cond_false]]; kernel_rfl, by kernel_rfl⟩
end Go.Proofs.Ytofimhodpemmiaa
