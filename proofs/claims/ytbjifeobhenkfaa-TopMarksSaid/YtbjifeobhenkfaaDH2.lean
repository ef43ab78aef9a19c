/- By hand: a right object is small; how long its bytes are. -/
import Derived.Test.YtbjifeobhenkfaaDWrite
set_option linter.unusedVariables false
set_option linter.unusedSimpArgs false
set_option maxRecDepth 100000
namespace Go.Proofs.Ytbjifeobhenkfaa
open Go Go.Eng
def U64 (n : Int) : Prop := 0 ≤ n ∧ n ≤ 18446744073709551615
def Rng (o : XObj) : Prop := U64 o.version ∧ U64 o.born ∧ U64 o.num ∧ U64 o.tag
def Small (o : XObj) : Prop := Rng o ∧ (0 ≤ o.size ∧ o.size ≤ 1125899906842624) ∧ (0 ≤ o.got ∧ o.got ≤ 1125899906842624) ∧ o.name.size ≤ 40 ∧ ∀ q ∈ [o.cls, o.zone, o.node, o.claim, o.volume, o.source], q.size ≤ 40
theorem name_size {a : ByteArray} (h : object_NameF a = true) : a.size ≤ 40 := by
 unfold object_NameF at h
 cases h1 : object_NameLF a a.size 0 with
 | true => rw [h1] at h; cases h
 | false =>
  rw [h1, cond_false, Bool.cond_false_right, Bool.and_eq_true] at h
  have := of_decide_eq_true h.2
  omega
theorem names_all : ∀ {l : List ByteArray}, object_namesF l = true → ∀ q ∈ l, q.size ≤ 40 := by
 have key : ∀ l : List ByteArray, object_namesLF l = false → ∀ q ∈ l, q.size ≤ 40 := by
  intro l
  induction l with
  | nil => intro _ q hq; cases hq
  | cons o r ih =>
   intro h q hq
   unfold object_namesLF at h
   cases hc : cond (!(decide (o = (⟨#[]⟩ : ByteArray)))) (!(object_NameF o)) false with
   | true => rw [hc] at h; cases h
   | false =>
    rw [hc, cond_false] at h
    rcases List.mem_cons.1 hq with rfl | hq
    · by_cases he : q = (⟨#[]⟩ : ByteArray)
      · rw [he]; exact Nat.zero_le _
      · rw [decide_eq_false he] at hc
        simp only [Bool.not_false, cond_true, Bool.not_eq_false'] at hc
        exact name_size hc
    · exact ih h q hq
 intro l h
 unfold object_namesF at h
 cases hL : object_namesLF l with
 | true => rw [hL] at h; cases h
 | false => exact key l hL
theorem size_in {n : Int} (h : object_Right_1F n = true) : 0 ≤ n ∧ n ≤ 1125899906842624 := by
 unfold object_Right_1F at h
 simp only [Bool.cond_false_right, Bool.and_eq_true, decide_eq_true_eq] at h
 exact h
theorem right_guard {o : XObj} (h : object_RightF o = true) : object_NameF o.name = true ∧ object_namesF [o.cls, o.zone, o.node, o.claim, o.volume, o.source] = true ∧ object_Right_1F o.size = true ∧ object_Right_1F o.got = true := by
 unfold object_RightF at h
 have key : ∀ (g x : Bool), cond g false x = true → g = false := by intro g x; cases g <;> simp
 have h1 := key _ _ h
 simp only [Bool.cond_true_left, Bool.or_eq_false_iff, Bool.not_eq_false'] at h1
 exact ⟨h1.1.1.1.1, h1.1.1.2, h1.1.2, h1.2⟩
theorem right_small {o : XObj} (h : object_RightF o = true) (hr : Rng o) : Small o := by
 obtain ⟨h1, h2, h3, h4⟩ := right_guard h
 exact ⟨hr, size_in h3, size_in h4, name_size h1, names_all h2⟩
section
variable {o : XObj} (h : Small o)
include h
theorem small_name : ∀ q ∈ [o.name], q.size ≤ 40 := fun q hq => by rw [List.mem_singleton.1 hq]; exact h.2.2.2.1
theorem small_cls : ∀ q ∈ [o.cls], q.size ≤ 40 := fun q hq => by rw [List.mem_singleton.1 hq]; exact h.2.2.2.2 _ (by simp)
theorem small_rest : ∀ q ∈ [o.zone, o.node, o.claim, o.volume, o.source], q.size ≤ 40 := fun q hq => h.2.2.2.2 q (List.mem_cons_of_mem _ hq)
theorem small_size : 0 ≤ IntKind.u64.wrap o.size ∧ IntKind.u64.wrap o.size ≤ 18446744073709551615 := by have := h.2.1; rw [wrap_u64 (by omega) (by omega)]; omega
theorem small_got : 0 ≤ IntKind.u64.wrap o.got ∧ IntKind.u64.wrap o.got ≤ 18446744073709551615 := by have := h.2.2.1; rw [wrap_u64 (by omega) (by omega)]; omega
theorem small_ver : 0 ≤ o.version ∧ o.version ≤ 18446744073709551615 := h.1.1
theorem small_born : 0 ≤ o.born ∧ o.born ≤ 18446744073709551615 := h.1.2.1
theorem small_num : 0 ≤ o.num ∧ o.num ≤ 18446744073709551615 := h.1.2.2.1
theorem small_tag : 0 ≤ o.tag ∧ o.tag ≤ 18446744073709551615 := h.1.2.2.2
end
theorem text_len : ∀ (l : List ByteArray) (b : List Int), (∀ q ∈ l, q.size ≤ 40) → (codec_writer_textF l b).length ≤ b.length + 60 * l.length := by
 have key : ∀ (l : List ByteArray) (b : List Int), (∀ q ∈ l, q.size ≤ 40) → (codec_writer_textLF l b).length ≤ b.length + 60 * l.length := by
  intro l
  induction l with
  | nil => intro b _; exact Nat.le_refl _
  | cons o r ih =>
   intro b h
   unfold codec_writer_textLF
   have h1 := ih ((codec_writer_numberF (IntKind.u64.wrap ((o.size : Int))) b) ++ (strInts o)) (fun q hq => h q (List.mem_cons_of_mem _ hq))
   have h2 := number_len (IntKind.u64.wrap ((o.size : Int))) b
   have h3 := h o List.mem_cons_self
   rw [List.length_append, strInts_length] at h1
   rw [List.length_cons]
   omega
 exact key
theorem obj_chain (a1 : XObj) (b1 : List Int) (h : Small a1) : (codec_writer_byteF a1.kind b1).length = b1.length + 1 ∧ (codec_writer_textF [a1.name] (codec_writer_byteF a1.kind b1)).length ≤ (codec_writer_byteF a1.kind b1).length + 60 ∧ (codec_writer_numberF a1.version (codec_writer_textF [a1.name] (codec_writer_byteF a1.kind b1))).length ≤ (codec_writer_textF [a1.name] (codec_writer_byteF a1.kind b1)).length + 12 ∧ (codec_writer_numberF a1.born (codec_writer_numberF a1.version (codec_writer_textF [a1.name] (codec_writer_byteF a1.kind b1)))).length ≤ (codec_writer_numberF a1.version (codec_writer_textF [a1.name] (codec_writer_byteF a1.kind b1))).length + 12 ∧ (codec_writer_byteF (codec_flagsF [a1.deleting, a1.hold, a1.keep, a1.wait]) (codec_writer_numberF a1.born (codec_writer_numberF a1.version (codec_writer_textF [a1.name] (codec_writer_byteF a1.kind b1))))).length = (codec_writer_numberF a1.born (codec_writer_numberF a1.version (codec_writer_textF [a1.name] (codec_writer_byteF a1.kind b1)))).length + 1 ∧ (codec_writer_textF [a1.cls] (codec_writer_byteF (codec_flagsF [a1.deleting, a1.hold, a1.keep, a1.wait]) (codec_writer_numberF a1.born (codec_writer_numberF a1.version (codec_writer_textF [a1.name] (codec_writer_byteF a1.kind b1)))))).length ≤ (codec_writer_byteF (codec_flagsF [a1.deleting, a1.hold, a1.keep, a1.wait]) (codec_writer_numberF a1.born (codec_writer_numberF a1.version (codec_writer_textF [a1.name] (codec_writer_byteF a1.kind b1))))).length + 60 ∧ (codec_writer_numberF (IntKind.u64.wrap (a1.size)) (codec_writer_textF [a1.cls] (codec_writer_byteF (codec_flagsF [a1.deleting, a1.hold, a1.keep, a1.wait]) (codec_writer_numberF a1.born (codec_writer_numberF a1.version (codec_writer_textF [a1.name] (codec_writer_byteF a1.kind b1))))))).length ≤ (codec_writer_textF [a1.cls] (codec_writer_byteF (codec_flagsF [a1.deleting, a1.hold, a1.keep, a1.wait]) (codec_writer_numberF a1.born (codec_writer_numberF a1.version (codec_writer_textF [a1.name] (codec_writer_byteF a1.kind b1)))))).length + 12 ∧ (codec_writer_numberF (IntKind.u64.wrap (a1.got)) (codec_writer_numberF (IntKind.u64.wrap (a1.size)) (codec_writer_textF [a1.cls] (codec_writer_byteF (codec_flagsF [a1.deleting, a1.hold, a1.keep, a1.wait]) (codec_writer_numberF a1.born (codec_writer_numberF a1.version (codec_writer_textF [a1.name] (codec_writer_byteF a1.kind b1)))))))).length ≤ (codec_writer_numberF (IntKind.u64.wrap (a1.size)) (codec_writer_textF [a1.cls] (codec_writer_byteF (codec_flagsF [a1.deleting, a1.hold, a1.keep, a1.wait]) (codec_writer_numberF a1.born (codec_writer_numberF a1.version (codec_writer_textF [a1.name] (codec_writer_byteF a1.kind b1))))))).length + 12 ∧ (codec_writer_byteF a1.mode (codec_writer_numberF (IntKind.u64.wrap (a1.got)) (codec_writer_numberF (IntKind.u64.wrap (a1.size)) (codec_writer_textF [a1.cls] (codec_writer_byteF (codec_flagsF [a1.deleting, a1.hold, a1.keep, a1.wait]) (codec_writer_numberF a1.born (codec_writer_numberF a1.version (codec_writer_textF [a1.name] (codec_writer_byteF a1.kind b1))))))))).length = (codec_writer_numberF (IntKind.u64.wrap (a1.got)) (codec_writer_numberF (IntKind.u64.wrap (a1.size)) (codec_writer_textF [a1.cls] (codec_writer_byteF (codec_flagsF [a1.deleting, a1.hold, a1.keep, a1.wait]) (codec_writer_numberF a1.born (codec_writer_numberF a1.version (codec_writer_textF [a1.name] (codec_writer_byteF a1.kind b1)))))))).length + 1 ∧ (codec_writer_textF [a1.zone, a1.node, a1.claim, a1.volume, a1.source] (codec_writer_byteF a1.mode (codec_writer_numberF (IntKind.u64.wrap (a1.got)) (codec_writer_numberF (IntKind.u64.wrap (a1.size)) (codec_writer_textF [a1.cls] (codec_writer_byteF (codec_flagsF [a1.deleting, a1.hold, a1.keep, a1.wait]) (codec_writer_numberF a1.born (codec_writer_numberF a1.version (codec_writer_textF [a1.name] (codec_writer_byteF a1.kind b1)))))))))).length ≤ (codec_writer_byteF a1.mode (codec_writer_numberF (IntKind.u64.wrap (a1.got)) (codec_writer_numberF (IntKind.u64.wrap (a1.size)) (codec_writer_textF [a1.cls] (codec_writer_byteF (codec_flagsF [a1.deleting, a1.hold, a1.keep, a1.wait]) (codec_writer_numberF a1.born (codec_writer_numberF a1.version (codec_writer_textF [a1.name] (codec_writer_byteF a1.kind b1))))))))).length + 300 ∧ (codec_writer_byteF a1.phase (codec_writer_textF [a1.zone, a1.node, a1.claim, a1.volume, a1.source] (codec_writer_byteF a1.mode (codec_writer_numberF (IntKind.u64.wrap (a1.got)) (codec_writer_numberF (IntKind.u64.wrap (a1.size)) (codec_writer_textF [a1.cls] (codec_writer_byteF (codec_flagsF [a1.deleting, a1.hold, a1.keep, a1.wait]) (codec_writer_numberF a1.born (codec_writer_numberF a1.version (codec_writer_textF [a1.name] (codec_writer_byteF a1.kind b1))))))))))).length = (codec_writer_textF [a1.zone, a1.node, a1.claim, a1.volume, a1.source] (codec_writer_byteF a1.mode (codec_writer_numberF (IntKind.u64.wrap (a1.got)) (codec_writer_numberF (IntKind.u64.wrap (a1.size)) (codec_writer_textF [a1.cls] (codec_writer_byteF (codec_flagsF [a1.deleting, a1.hold, a1.keep, a1.wait]) (codec_writer_numberF a1.born (codec_writer_numberF a1.version (codec_writer_textF [a1.name] (codec_writer_byteF a1.kind b1)))))))))).length + 1 ∧ (codec_writer_numberF a1.num (codec_writer_byteF a1.phase (codec_writer_textF [a1.zone, a1.node, a1.claim, a1.volume, a1.source] (codec_writer_byteF a1.mode (codec_writer_numberF (IntKind.u64.wrap (a1.got)) (codec_writer_numberF (IntKind.u64.wrap (a1.size)) (codec_writer_textF [a1.cls] (codec_writer_byteF (codec_flagsF [a1.deleting, a1.hold, a1.keep, a1.wait]) (codec_writer_numberF a1.born (codec_writer_numberF a1.version (codec_writer_textF [a1.name] (codec_writer_byteF a1.kind b1)))))))))))).length ≤ (codec_writer_byteF a1.phase (codec_writer_textF [a1.zone, a1.node, a1.claim, a1.volume, a1.source] (codec_writer_byteF a1.mode (codec_writer_numberF (IntKind.u64.wrap (a1.got)) (codec_writer_numberF (IntKind.u64.wrap (a1.size)) (codec_writer_textF [a1.cls] (codec_writer_byteF (codec_flagsF [a1.deleting, a1.hold, a1.keep, a1.wait]) (codec_writer_numberF a1.born (codec_writer_numberF a1.version (codec_writer_textF [a1.name] (codec_writer_byteF a1.kind b1))))))))))).length + 12 ∧ (codec_writer_numberF a1.tag (codec_writer_numberF a1.num (codec_writer_byteF a1.phase (codec_writer_textF [a1.zone, a1.node, a1.claim, a1.volume, a1.source] (codec_writer_byteF a1.mode (codec_writer_numberF (IntKind.u64.wrap (a1.got)) (codec_writer_numberF (IntKind.u64.wrap (a1.size)) (codec_writer_textF [a1.cls] (codec_writer_byteF (codec_flagsF [a1.deleting, a1.hold, a1.keep, a1.wait]) (codec_writer_numberF a1.born (codec_writer_numberF a1.version (codec_writer_textF [a1.name] (codec_writer_byteF a1.kind b1))))))))))))).length ≤ (codec_writer_numberF a1.num (codec_writer_byteF a1.phase (codec_writer_textF [a1.zone, a1.node, a1.claim, a1.volume, a1.source] (codec_writer_byteF a1.mode (codec_writer_numberF (IntKind.u64.wrap (a1.got)) (codec_writer_numberF (IntKind.u64.wrap (a1.size)) (codec_writer_textF [a1.cls] (codec_writer_byteF (codec_flagsF [a1.deleting, a1.hold, a1.keep, a1.wait]) (codec_writer_numberF a1.born (codec_writer_numberF a1.version (codec_writer_textF [a1.name] (codec_writer_byteF a1.kind b1)))))))))))).length + 12 :=
 ⟨byte_len _ _, text_len _ _ (small_name h), number_len _ _, number_len _ _, byte_len _ _, text_len _ _ (small_cls h), number_len _ _, number_len _ _, byte_len _ _, text_len _ _ (small_rest h), byte_len _ _, number_len _ _, number_len _ _⟩
end Go.Proofs.Ytbjifeobhenkfaa
