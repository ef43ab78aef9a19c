/- Bind: plain laws: the program's answer and the document's are one. -/
import Derived.Test.YtnfmnipckcidlaaDoorDFirst
set_option linter.unusedVariables false
set_option linter.unusedSimpArgs false
set_option maxRecDepth 100000
namespace Go.Proofs.YtnfmnipckcidlaaDoor
open Go Go.Eng
theorem handle_eq (o : XObj) : bind_HandleF o = r12_HandleF o := rfl
theorem ref_eq (o : XObj) : bind_RefF o = r12_RefF o := by
  unfold bind_RefF r12_RefF
  rw [handle_eq]
  unfold r12_HandleF r12_longF
  have hx : ((((⟨#[112, 118, 99, 47]⟩ : ByteArray) ++ o.name) ++ (⟨#[35]⟩ : ByteArray)) ++ (fmtU o.born)) = (⟨#[112, 118, 99, 47]⟩ : ByteArray) ++ ((o.name ++ (⟨#[35]⟩ : ByteArray)) ++ (fmtU o.born)) := by
    rw [ByteArray.append_assoc, ByteArray.append_assoc, ByteArray.append_assoc]
  rw [hx]
  generalize (o.name ++ (⟨#[35]⟩ : ByteArray)) ++ (fmtU o.born) = t
  have hs : ((⟨#[112, 118, 99, 47]⟩ : ByteArray) ++ t).size = 4 + t.size := by rw [ByteArray.size_append]; rfl
  have hne : ((⟨#[112, 118, 99, 47]⟩ : ByteArray) ++ t) ≠ (⟨#[]⟩ : ByteArray) := fun e => by
    have := congrArg ByteArray.size e
    rw [hs] at this
    have h0 : (⟨#[]⟩ : ByteArray).size = 0 := rfl
    omega
  cases h : decide ((((⟨#[112, 118, 99, 47]⟩ : ByteArray) ++ t).size : Int) > (40 : Int)) with
  | true => rfl
  | false =>
    simp only [cond_false]
    rw [decide_eq_false hne, cond_false]
    refine ByteArray.extract_append_eq_right ?_ hs
    rw [hs]
    show (if (4 : Int) < ((4 + t.size : Nat) : Int) then (4 : Int) else ((4 + t.size : Nat) : Int)).toNat = 4
    split <;> omega
theorem get_eq' (k : Int) (n : ByteArray) (l : List XObj) : bind_world_getF k n (bind_ofF l) = r12_GetF (r12_UniqF l) k n := by rw [get_eq, of_eq]
theorem get_pair (k : Int) (n : ByteArray) (l : List XObj) : r12_GetF l k n = ((r12_GetF l k n).1, (r12_GetF l k n).2) := rfl
/-- A claim's volume. -/
theorem itLF_eq (a : List XObj) (n : ByteArray) : ∀ (l : List XObj) (v : XObj) (b : Bool), bind_Claim_itLF a n l v b = ((r12_volumeLF ((r12_GetF (r12_UniqF a) (3 : Int) n).1) l b v).2, (r12_volumeLF ((r12_GetF (r12_UniqF a) (3 : Int) n).1) l b v).1)
  | [], v, b => rfl
  | o :: r, v, b => by
    unfold bind_Claim_itLF r12_volumeLF
    rw [get_eq', of_eq]
    unfold bind_world_some_4F bind_Claim_3F bind_Claim_rF
    rw [ref_eq]
    cases h1 : (cond (o.kind == (4 : Int)) (decide (o.claim = r12_RefF ((r12_GetF (r12_UniqF a) 3 n).1))) false) with
    | false => exact itLF_eq a n r v b
    | true =>
      cases h2 : (cond (!b) true (strLess o.name v.name)) with
      | true => exact itLF_eq a n r o true
      | false => exact itLF_eq a n r v b
theorem any_eq (l : List XObj) (c : XObj) : cond (cond (bind_world_anyF (6 : Int) l c) true (!c.deleting)) true (bind_world_any_2F (5 : Int) l c) = !(cond c.deleting (!(r12_usedF l c)) false) := by
  have h : ∀ l' : List XObj, (bind_world_any_itLF 6 l c l' || bind_world_any_2_itLF 5 l c l') = r12_usedLF c l' := by
    intro l'
    induction l' with
    | nil => rfl
    | cons o r ih =>
      unfold bind_world_any_itLF bind_world_any_2_itLF r12_usedLF
      rw [← ih]
      unfold bind_world_some_2F bind_world_some_3F bind_Claim_1F bind_Claim_2F
      cases (cond (o.kind == (6 : Int)) (decide (o.claim = c.name)) false) <;> cases (cond (o.kind == (5 : Int)) (decide (o.volume = c.volume)) false) <;> simp
  unfold bind_world_anyF bind_world_any_itF bind_world_any_2F bind_world_any_2_itF r12_usedF
  rw [← h l]
  cases bind_world_any_itLF 6 l c l <;> cases bind_world_any_2_itLF 5 l c l <;> cases c.deleting <;> rfl
theorem node_eq (c : XObj) (l : List XObj) : bind_world_nodeF c l = cond (decide (c.node = (⟨#[]⟩ : ByteArray))) (default, false) (r12_GetF l (2 : Int) c.node) := by
  unfold bind_world_nodeF
  rw [get_eq]
theorem bestLF_eq (a : List XObj) (c : XObj) : ∀ (l : List XObj) (v : XObj) (b : Bool), bind_Best_itLF a c l v b = ((r12_BestLF a c l b v).2, (r12_BestLF a c l b v).1)
  | [], v, b => rfl
  | o :: r, v, b => by
    unfold bind_Best_itLF r12_BestLF
    rw [node_eq, of_eq]
    unfold bind_world_some_5F bind_Best_1F bind_Best_rF
    have hc : (cond (o.kind == (4 : Int)) (cond (cond (cond (cond (cond (o.phase == (4 : Int)) (!o.deleting) false) (decide (o.cls = c.cls)) false) (o.mode == c.mode) false) (decide (o.got ≥ c.size)) false) (cond (!(cond (decide (c.node = (⟨#[]⟩ : ByteArray))) ((default : XObj), false) (r12_GetF (r12_UniqF a) (2 : Int) c.node)).2) true (decide (o.zone = (cond (decide (c.node = (⟨#[]⟩ : ByteArray))) ((default : XObj), false) (r12_GetF (r12_UniqF a) (2 : Int) c.node)).1.zone))) false) false)
        = !(cond (cond (cond (cond (cond (cond (!((o.kind) == (4 : Int))) true (!((o.phase) == (4 : Int)))) true (o.deleting)) true (!(decide ((o.cls) = c.cls)))) true (!((o.mode) == c.mode))) true (decide ((o.got) < c.size))) true (cond (cond ((r12_GetF (r12_UniqF a) (2 : Int) c.node).2) (!(decide (c.node = (⟨#[]⟩ : ByteArray)))) false) (!(decide ((o.zone) = (((r12_GetF (r12_UniqF a) (2 : Int) c.node).1).zone)))) false)) := by
      have hg : decide (o.got ≥ c.size) = !(decide (o.got < c.size)) := by
        by_cases q : o.got < c.size
        · simp [q]
        · simp [q, Int.not_lt.1 q]
      rw [hg]
      cases (o.kind == (4 : Int)) <;> cases (o.phase == (4 : Int)) <;> cases o.deleting <;> cases (decide (o.cls = c.cls)) <;> cases (o.mode == c.mode) <;> cases (decide (o.got < c.size)) <;> cases (decide (c.node = (⟨#[]⟩ : ByteArray))) <;> simp
      all_goals (cases (r12_GetF (r12_UniqF a) (2 : Int) c.node).2 <;> simp)
    rw [hc]
    generalize (cond (cond (cond (cond (cond (cond (!((o.kind) == (4 : Int))) true (!((o.phase) == (4 : Int)))) true (o.deleting)) true (!(decide ((o.cls) = c.cls)))) true (!((o.mode) == c.mode))) true (decide ((o.got) < c.size))) true (cond (cond ((r12_GetF (r12_UniqF a) (2 : Int) c.node).2) (!(decide (c.node = (⟨#[]⟩ : ByteArray)))) false) (!(decide ((o.zone) = (((r12_GetF (r12_UniqF a) (2 : Int) c.node).1).zone)))) false)) = x
    cases x with
    | true => exact bestLF_eq a c r v b
    | false =>
      simp only [Bool.not_false, cond_true, cond_false]
      cases h2 : (cond (cond (!b) true (decide (o.got < v.got))) true (cond (o.got == v.got) (strLess o.name v.name) false)) with
      | true => exact bestLF_eq a c r o true
      | false => exact bestLF_eq a c r v b
theorem best_eq (l : List XObj) (c : XObj) : bind_BestF l c = r12_BestF l c := by
  unfold bind_BestF r12_BestF
  rw [bestLF_eq, of_eq]
theorem wait_eq (c : XObj) (v : Int) (l : List XObj) : bind_world_waitF c v l = r12_pendingF l v c := by
  unfold bind_world_waitF r12_pendingF
  simp only [best_eq, node_eq, get_eq, ref_eq]
  unfold bind_writeF r12_WriteF
  generalize r12_BestF l c = b
  generalize r12_GetF l 1 c.cls = g1
  generalize r12_GetF l 2 c.node = g2
  generalize r12_GetF l 7 c.source = g7
  obtain ⟨o1, b1⟩ := g1
  obtain ⟨o2, b2⟩ := g2
  obtain ⟨o7, b7⟩ := g7
  obtain ⟨ob, bb⟩ := b
  dsimp only
  generalize decide (c.node = (⟨#[]⟩ : ByteArray)) = e
  generalize o1.wait = w1
  generalize decide (o1.zone = (⟨#[]⟩ : ByteArray)) = z1
  generalize decide (c.source = (⟨#[]⟩ : ByteArray)) = s1
  generalize o7.deleting = d7
  generalize (o7.phase == (11 : Int)) = p7
  generalize hq : decide (o7.got > c.size) = q7
  have hq' : decide (c.size < o7.got) = q7 := hq
  cases bb
  · cases e
    · dsimp only [cond]
      generalize decide (o2.zone = (⟨#[]⟩ : ByteArray)) = z2
      cases b1 <;> cases b2 <;> cases w1 <;> cases z1 <;> cases z2 <;> cases s1 <;> cases b7 <;> cases d7 <;> cases p7 <;> cases q7 <;> rfl
    · dsimp only [cond]
      cases b1 <;> cases b2 <;> cases w1 <;> cases z1 <;> cases s1 <;> cases b7 <;> cases d7 <;> cases p7 <;> cases q7 <;> rfl
  · rfl
end Go.Proofs.YtnfmnipckcidlaaDoor
