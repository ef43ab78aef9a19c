/- Names, part 2: the functions. -/
import Derived.Test.YtofimhodpemmiaaName
set_option maxRecDepth 100000
namespace Go.Proofs.Ytofimhodpemmiaa
open Go Go.Eng

def nameF (s : ByteArray) : Bool :=
  cond (okFrom s 0)
    (cond (!(decide (s = (⟨#[]⟩ : ByteArray)))) (decide ((s.size : Int) ≤ (40 : Int))) false)
    false
def nameR (s : ByteArray) : Tree :=
  (.ask (okFrom s 0)
    (.leaf .ret ⟨slots 57 [(2, .bool (cond (!(decide (s = (⟨#[]⟩ : ByteArray)))) (decide ((s.size : Int) ≤ (40 : Int))) false))], []⟩)
    (.leaf .ret ⟨slots 57 [(2, .bool false)], []⟩))
theorem name_tr (s : ByteArray) (hs : s.size < 9223372036854775807) : Tr Try.prog 0 (bodyOf Try.f28) (fnBegins Try.f28 [.str s] []) (fnEnds Try.prog Try.f28 (.bool (nameF s)) []) := by
  refine Tr_tree (kok _ _ _ _) (E := E0) (L := (fun _ _ => some (S28 s 0, T28 s 0))) 60 9999 (LoopsOk.one (g := g28) (b := 0) (by kernel_rfl) (by kernel_rfl) (Nat.zero_le _) fun Q h => loop28 s hs ⟨0, Nat.zero_le _⟩ Q h) (nameR s) (by kernel_rfl) (by kernel_rfl) ?_ (by kernel_rfl) ?_
  · intro o ho; exact absurd ho (by rw [show obl (evCode E0 (fun _ _ => some (S28 s 0, T28 s 0)) 60 9999 (bodyOf Try.f28) (fnBegins Try.f28 [.str s] [])) = [] from by kernel_rfl]; simp)
  · unfold nameR
    refine ⟨fun h0 => ?_, fun h0 => ?_⟩
    · exact ⟨trivial, by rw [show nameF s = (cond (!(decide (s = (⟨#[]⟩ : ByteArray)))) (decide ((s.size : Int) ≤ (40 : Int))) false) from by simp only [nameF, h0, cond_true, cond_false]]; kernel_rfl, by kernel_rfl⟩
    · exact ⟨trivial, by rw [show nameF s = false from by simp only [nameF, h0, cond_true, cond_false]]; kernel_rfl, by kernel_rfl⟩
def nameK : List AV → List AObj → Nat → Option Out
  | [.str s], _, _ => some (.bool (nameF s), [], [s.size < 9223372036854775807])
  | _, _, _ => none
noncomputable def name_fact : Fact Try.prog where
  f := 28
  K := nameK
  ent := ent_of (fn := Try.f28) (by kernel_rfl) rfl (by kernel_rfl)
  ok := fun args h nid x effs need hk hn => by
    unfold nameK at hk
    split at hk
    · simp only [Option.some.injEq, Prod.mk.injEq] at hk
      obtain ⟨rfl, rfl, rfl⟩ := hk
      exact sound_pure (fn := Try.f28) (by kernel_rfl) rfl (by kernel_rfl) (by kernel_rfl) (name_tr _ (hn _ List.mem_cons_self)) _ _
    · cases hk
def rnameF (s : ByteArray) : Bool :=
  cond (okFrom s 0)
    (cond (decide ((s.size : Int) ≥ (1 : Int))) (decide ((s.size : Int) ≤ (40 : Int))) false)
    false
def rnameR (s : ByteArray) : Tree :=
  (.ask (okFrom s 0)
    (.leaf .ret ⟨slots 53 [(2, .bool (cond (decide ((s.size : Int) ≥ (1 : Int))) (decide ((s.size : Int) ≤ (40 : Int))) false))], []⟩)
    (.leaf .ret ⟨slots 53 [(2, .bool false)], []⟩))
theorem rname_tr (s : ByteArray) (hs : s.size < 9223372036854775807) : Tr Try.prog 0 (bodyOf Try.f29) (fnBegins Try.f29 [.str s] []) (fnEnds Try.prog Try.f29 (.bool (rnameF s)) []) := by
  refine Tr_tree (kok _ _ _ _) (E := E0) (L := (fun _ _ => some (S29 s 0, T29 s 0))) 60 9999 (LoopsOk.one (g := g29) (b := 0) (by kernel_rfl) (by kernel_rfl) (Nat.zero_le _) fun Q h => loop29 s hs ⟨0, Nat.zero_le _⟩ Q h) (rnameR s) (by kernel_rfl) (by kernel_rfl) ?_ (by kernel_rfl) ?_
  · intro o ho; exact absurd ho (by rw [show obl (evCode E0 (fun _ _ => some (S29 s 0, T29 s 0)) 60 9999 (bodyOf Try.f29) (fnBegins Try.f29 [.str s] [])) = [] from by kernel_rfl]; simp)
  · unfold rnameR
    refine ⟨fun h0 => ?_, fun h0 => ?_⟩
    · exact ⟨trivial, by rw [show rnameF s = (cond (decide ((s.size : Int) ≥ (1 : Int))) (decide ((s.size : Int) ≤ (40 : Int))) false) from by simp only [rnameF, h0, cond_true, cond_false]]; kernel_rfl, by kernel_rfl⟩
    · exact ⟨trivial, by rw [show rnameF s = false from by simp only [rnameF, h0, cond_true, cond_false]]; kernel_rfl, by kernel_rfl⟩
def rnameK : List AV → List AObj → Nat → Option Out
  | [.str s], _, _ => some (.bool (rnameF s), [], [s.size < 9223372036854775807])
  | _, _, _ => none
noncomputable def rname_fact : Fact Try.prog where
  f := 29
  K := rnameK
  ent := ent_of (fn := Try.f29) (by kernel_rfl) rfl (by kernel_rfl)
  ok := fun args h nid x effs need hk hn => by
    unfold rnameK at hk
    split at hk
    · simp only [Option.some.injEq, Prod.mk.injEq] at hk
      obtain ⟨rfl, rfl, rfl⟩ := hk
      exact sound_pure (fn := Try.f29) (by kernel_rfl) rfl (by kernel_rfl) (by kernel_rfl) (rname_tr _ (hn _ List.mem_cons_self)) _ _
    · cases hk
end Go.Proofs.Ytofimhodpemmiaa
