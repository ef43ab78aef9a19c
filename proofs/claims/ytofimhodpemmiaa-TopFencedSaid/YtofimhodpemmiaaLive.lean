/- Leases: what must be whatever is asked. -/
import Derived.Test.YtofimhodpemmiaaTry2
set_option maxRecDepth 100000
namespace Go.Proofs.Ytofimhodpemmiaa
open Go Go.Eng

noncomputable def E3 : Env := envOf [name_fact, rname_fact, mine_fact, rmine_fact, ref_fact, rel_fact, rrel_fact, rtry_fact, try_fact] [must_fact] [] fun _ => none
def liveF  : Bool :=
  cond (cond (cond (cond (cond (cond (((tryF (⟨#[]⟩ : ByteArray) (0 : Int) (0 : Int) (⟨#[97]⟩ : ByteArray) (0 : Int) (10 : Int)).2.2.2) == (0 : Int)) (((tryF (⟨#[]⟩ : ByteArray) (0 : Int) (0 : Int) (⟨#[97]⟩ : ByteArray) (0 : Int) (10 : Int)).2.1) == (10 : Int)) false) (((tryF (⟨#[]⟩ : ByteArray) (0 : Int) (0 : Int) (⟨#[97]⟩ : ByteArray) (0 : Int) (10 : Int)).2.2.1) == (1 : Int)) false) (((tryF ((tryF (⟨#[]⟩ : ByteArray) (0 : Int) (0 : Int) (⟨#[97]⟩ : ByteArray) (0 : Int) (10 : Int)).1) ((tryF (⟨#[]⟩ : ByteArray) (0 : Int) (0 : Int) (⟨#[97]⟩ : ByteArray) (0 : Int) (10 : Int)).2.1) ((tryF (⟨#[]⟩ : ByteArray) (0 : Int) (0 : Int) (⟨#[97]⟩ : ByteArray) (0 : Int) (10 : Int)).2.2.1) (⟨#[98]⟩ : ByteArray) (9 : Int) (10 : Int)).2.2.2) == (8 : Int)) false) (((tryF ((tryF (⟨#[]⟩ : ByteArray) (0 : Int) (0 : Int) (⟨#[97]⟩ : ByteArray) (0 : Int) (10 : Int)).1) ((tryF (⟨#[]⟩ : ByteArray) (0 : Int) (0 : Int) (⟨#[97]⟩ : ByteArray) (0 : Int) (10 : Int)).2.1) ((tryF (⟨#[]⟩ : ByteArray) (0 : Int) (0 : Int) (⟨#[97]⟩ : ByteArray) (0 : Int) (10 : Int)).2.2.1) (⟨#[98]⟩ : ByteArray) (10 : Int) (10 : Int)).2.2.2) == (0 : Int)) false) (((tryF ((tryF (⟨#[]⟩ : ByteArray) (0 : Int) (0 : Int) (⟨#[97]⟩ : ByteArray) (0 : Int) (10 : Int)).1) ((tryF (⟨#[]⟩ : ByteArray) (0 : Int) (0 : Int) (⟨#[97]⟩ : ByteArray) (0 : Int) (10 : Int)).2.1) ((tryF (⟨#[]⟩ : ByteArray) (0 : Int) (0 : Int) (⟨#[97]⟩ : ByteArray) (0 : Int) (10 : Int)).2.2.1) (⟨#[98]⟩ : ByteArray) (10 : Int) (10 : Int)).2.2.1) == (2 : Int)) false) (mineF ((tryF (⟨#[]⟩ : ByteArray) (0 : Int) (0 : Int) (⟨#[97]⟩ : ByteArray) (0 : Int) (10 : Int)).1) ((tryF (⟨#[]⟩ : ByteArray) (0 : Int) (0 : Int) (⟨#[97]⟩ : ByteArray) (0 : Int) (10 : Int)).2.1) ((tryF (⟨#[]⟩ : ByteArray) (0 : Int) (0 : Int) (⟨#[97]⟩ : ByteArray) (0 : Int) (10 : Int)).2.2.1) (⟨#[97]⟩ : ByteArray) (9 : Int)) false
def liveR  : Tree :=
  (.leaf .ret ⟨slots 51 [(0, .bool (cond (cond (cond (cond (cond (cond (((tryF (⟨#[]⟩ : ByteArray) (0 : Int) (0 : Int) (⟨#[97]⟩ : ByteArray) (0 : Int) (10 : Int)).2.2.2) == (0 : Int)) (((tryF (⟨#[]⟩ : ByteArray) (0 : Int) (0 : Int) (⟨#[97]⟩ : ByteArray) (0 : Int) (10 : Int)).2.1) == (10 : Int)) false) (((tryF (⟨#[]⟩ : ByteArray) (0 : Int) (0 : Int) (⟨#[97]⟩ : ByteArray) (0 : Int) (10 : Int)).2.2.1) == (1 : Int)) false) (((tryF ((tryF (⟨#[]⟩ : ByteArray) (0 : Int) (0 : Int) (⟨#[97]⟩ : ByteArray) (0 : Int) (10 : Int)).1) ((tryF (⟨#[]⟩ : ByteArray) (0 : Int) (0 : Int) (⟨#[97]⟩ : ByteArray) (0 : Int) (10 : Int)).2.1) ((tryF (⟨#[]⟩ : ByteArray) (0 : Int) (0 : Int) (⟨#[97]⟩ : ByteArray) (0 : Int) (10 : Int)).2.2.1) (⟨#[98]⟩ : ByteArray) (9 : Int) (10 : Int)).2.2.2) == (8 : Int)) false) (((tryF ((tryF (⟨#[]⟩ : ByteArray) (0 : Int) (0 : Int) (⟨#[97]⟩ : ByteArray) (0 : Int) (10 : Int)).1) ((tryF (⟨#[]⟩ : ByteArray) (0 : Int) (0 : Int) (⟨#[97]⟩ : ByteArray) (0 : Int) (10 : Int)).2.1) ((tryF (⟨#[]⟩ : ByteArray) (0 : Int) (0 : Int) (⟨#[97]⟩ : ByteArray) (0 : Int) (10 : Int)).2.2.1) (⟨#[98]⟩ : ByteArray) (10 : Int) (10 : Int)).2.2.2) == (0 : Int)) false) (((tryF ((tryF (⟨#[]⟩ : ByteArray) (0 : Int) (0 : Int) (⟨#[97]⟩ : ByteArray) (0 : Int) (10 : Int)).1) ((tryF (⟨#[]⟩ : ByteArray) (0 : Int) (0 : Int) (⟨#[97]⟩ : ByteArray) (0 : Int) (10 : Int)).2.1) ((tryF (⟨#[]⟩ : ByteArray) (0 : Int) (0 : Int) (⟨#[97]⟩ : ByteArray) (0 : Int) (10 : Int)).2.2.1) (⟨#[98]⟩ : ByteArray) (10 : Int) (10 : Int)).2.2.1) == (2 : Int)) false) (mineF ((tryF (⟨#[]⟩ : ByteArray) (0 : Int) (0 : Int) (⟨#[97]⟩ : ByteArray) (0 : Int) (10 : Int)).1) ((tryF (⟨#[]⟩ : ByteArray) (0 : Int) (0 : Int) (⟨#[97]⟩ : ByteArray) (0 : Int) (10 : Int)).2.1) ((tryF (⟨#[]⟩ : ByteArray) (0 : Int) (0 : Int) (⟨#[97]⟩ : ByteArray) (0 : Int) (10 : Int)).2.2.1) (⟨#[97]⟩ : ByteArray) (9 : Int)) false))], []⟩)
theorem live_tr  : Tr Try.prog 0 (bodyOf Try.f13) (fnBegins Try.f13 [] []) (fnEnds Try.prog Try.f13 (.bool liveF) []) := by
  refine Tr_tree (kok _ _ _ _) (E := E3) (L := noLoops) 60 9999 LoopsOk.none (liveR ) (by kernel_rfl) (by kernel_rfl) ?_ (by kernel_rfl) ?_
  · intro o ho hway
    rw [show obl (evCode E3 noLoops 60 9999 (bodyOf Try.f13) (fnBegins Try.f13 [] [])) = [([], (⟨#[97]⟩ : ByteArray).size < 9223372036854775807), ([], (⟨#[98]⟩ : ByteArray).size < 9223372036854775807), ([], (⟨#[98]⟩ : ByteArray).size < 9223372036854775807)] from by kernel_rfl] at ho
    simp only [List.mem_cons, List.not_mem_nil, or_false] at ho
    rcases ho with rfl | rfl | rfl
    · first | decide | omega
    · first | decide | omega
    · first | decide | omega
  · unfold liveR
    exact ⟨trivial, by kernel_rfl, by kernel_rfl⟩
def liveK : List AV → List AObj → Nat → Option Out
  | [], _, _ => some (.bool liveF, [], [])
  | _, _, _ => none
noncomputable def live_fact : Fact Try.prog where
  f := 13
  K := liveK
  ent := ent_of (fn := Try.f13) (by kernel_rfl) rfl (by kernel_rfl)
  ok := fun args h nid x effs need hk hn => by
    unfold liveK at hk
    split at hk
    · simp only [Option.some.injEq, Prod.mk.injEq] at hk
      obtain ⟨rfl, rfl, rfl⟩ := hk
      exact sound_pure (fn := Try.f13) (by kernel_rfl) rfl (by kernel_rfl) (by kernel_rfl) (live_tr  ) _ _
    · cases hk
theorem live_true : liveF = true := by decide +kernel

end Go.Proofs.Ytofimhodpemmiaa
