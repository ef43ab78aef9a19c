/- The writer: bytes, numbers, texts. -/
import Derived.Test.YtbjifeobhenkfaaDUser
set_option linter.unusedVariables false
set_option linter.unusedSimpArgs false
set_option maxRecDepth 100000
namespace Go.Proofs.Ytbjifeobhenkfaa
open Go Go.Eng
noncomputable def E_codec_writer_byte : Env := envOf (P := Try.prog) [] [] [] ckf true
def codec_writer_byteF (a1 : Int) (b1 : List Int) : List Int :=
 (b1 ++ [a1])
def codec_writer_byteR (a1 : Int) (b1 : List Int) : RT :=
 (.need [(b1.length + [a1].length) * 1 ≤ bytesLim ∧ b1.length + [a1].length ≤ maxLen]
   (.leaf .normal ⟨slots 14 [], [.cells 78 [.vec 2], .dead, .vec false ⟨.int .u8, (b1 ++ [a1])⟩]⟩ [0, 1, 3]))
theorem codec_writer_byteF_tr (a1 : Int) (b1 : List Int) (hp0 : b1.length ≤ 100000) : Tr Try.prog 2 (bodyOf Try.f56) (fnBegins Try.f56 [.ptr 0 0, .int .u8 a1] [.cells 78 [.vec 1], .vec false ⟨.int .u8, b1⟩]) (fnEnds Try.prog Try.f56 (.tup []) [.cells 78 [.vec 2], .dead, .vec false ⟨.int .u8, codec_writer_byteF a1 b1⟩]) := by
 refine Tr.post ?_
 refine Tr_tree (kok _ _ _ _ _ _) (E := E_codec_writer_byte) (L := noLoops) 60 9999 LoopsOk.none (codec_writer_byteR a1 b1) (by kernel_rfl) (by kernel_rfl) (by kernel_rfl) ?_
 unfold codec_writer_byteR
 refine ⟨need_cons (by (try refine fun (_ : _ = _) => ?_); (try refine fun (_ : _ ∧ _) => ?_); unfold bytesLim maxLen; (try simp only [List.length_append, List.length_cons, List.length_nil, strInts_length]); omega) (need_nil), ?_⟩
 have hF : codec_writer_byteF a1 b1 = (b1 ++ [a1]) := rfl
 exact ⟨_, (Turn.moveC 0 0 2 3 rfl rfl rfl (by simp [hset])).trans (Turn.fits (p := ⟨slots 14 [], [.cells 78 [.vec 2], .dead, .vec false ⟨.int .u8, (b1 ++ [a1])⟩]⟩) [0, 1, 3] (by kernel_rfl) (by kernel_rfl) (by kernel_rfl) (by kernel_rfl)), trivial, .inl (by first | (rw [hF]; kernel_rfl) | kernel_rfl), by first | (rw [hF]; kernel_rfl) | kernel_rfl⟩
noncomputable def codec_writer_byte_fact : Fact Try.prog := factOf 56 Try.f56 (by kernel_rfl) rfl (by kernel_rfl) [.c (.ptr 0 0), .c (.int .u8)] [.cells 78 [.vec 1], .vec false (.int .u8)] false (fun t u => .tup []) (fun t u => [.cells 78 [.vec 2], .dead, .vec false ⟨.int .u8, codec_writer_byteF t.2.1 u.2.1⟩]) (fun t u => [u.2.1.length ≤ 100000])
 (nofun) (fun t u => by kernel_rfl) (fun t u => by kernel_rfl) (fun t u h => codec_writer_byteF_tr t.2.1 u.2.1 (h _ List.mem_cons_self))
noncomputable def E_codec_writer_number : Env := envOf (P := Try.prog) [codec_writer_byte_fact] [] [] ckf true
theorem byte_len (c : Int) (l : List Int) : (codec_writer_byteF c l).length = l.length + 1 := by simp [codec_writer_byteF]
def codec_writer_numberLF  : Nat → Int → List Int → Int × List Int
 | 0, _, _ => (default, default)
 | n + 1, v0, v1 => cond (decide (v0 > (127 : Int)))
  (codec_writer_numberLF n (shrI .u64 v0 (7 : Int)) (codec_writer_byteF (bitsI .or .u8 (IntKind.u8.wrap (v0)) (128 : Int)) v1))
  (v0, v1)
def codec_writer_numberLS (a1 : Int) (b1 : List Int) (v0 : Int) (v1 : List Int) (g : Nat) : St :=
 ⟨slots 17 [(0, .ptr 0 0), (1, .int .u64 v0)], [.cells 78 [.vec 2], .dead, .vec false ⟨.int .u8, v1⟩]⟩
def codec_writer_numberLR (a1 : Int) (b1 : List Int) (v0 : Int) (v1 : List Int) (g : Nat) : RT :=
 (.ask (decide (v0 > (127 : Int)))
   (.need [v1.length ≤ 100000]
     (.need [0 ≤ (7 : Int)]
       (.leaf .normal ⟨slots 17 [(0, .ptr 0 0), (1, .int .u64 (shrI .u64 v0 (7 : Int)))], [.cells 78 [.vec 2], .dead, .vec false ⟨.int .u8, codec_writer_byteF (bitsI .or .u8 (IntKind.u8.wrap (v0)) (128 : Int)) v1⟩]⟩ [0, 1, 3])))
   (.leaf (.exit 0) ⟨slots 17 [(0, .ptr 0 0), (1, .int .u64 v0)], [.cells 78 [.vec 2], .dead, .vec false ⟨.int .u8, v1⟩]⟩ []))
def codec_writer_numberLT (a1 : Int) (b1 : List Int) (v0 : Int) (v1 : List Int) (g : Nat) : Tree :=
 .leaf (.exit 0) ⟨slots 17 [(0, .ptr 0 0), (1, .int .u64 ((codec_writer_numberLF (g + 1) v0 v1).1))], [.cells 78 [.vec 2], .dead, .vec false ⟨.int .u8, (codec_writer_numberLF (g + 1) v0 v1).2⟩]⟩
theorem codec_writer_numberL_loop (a1 : Int) (b1 : List Int) (hp0 : b1.length ≤ 50000) (hp1 : 0 ≤ a1 ∧ a1 ≤ 18446744073709551615) (z : { z : Int × List Int × Nat // (0 ≤ z.1 ∧ z.1 < 128 ^ z.2.2) ∧ z.2.1.length + z.2.2 ≤ b1.length + 10 }) (Q : Exit → St → Prop) (h : (codec_writer_numberLT a1 b1 z.1.1 z.1.2.1 z.1.2.2).All Q) : Tr Try.prog 2 (.loop (loopAt Try.f58 0)) (codec_writer_numberLS a1 b1 z.1.1 z.1.2.1 z.1.2.2) Q := by
 refine Tr_loopT (kok _ _ _ _ _ _) (E := E_codec_writer_number) (ι := { z : Int × List Int × Nat // (0 ≤ z.1 ∧ z.1 < 128 ^ z.2.2) ∧ z.2.1.length + z.2.2 ≤ b1.length + 10 }) 60 0 (fun _ => noLoops) (fun z => codec_writer_numberLS a1 b1 z.1.1 z.1.2.1 z.1.2.2) (fun z => codec_writer_numberLT a1 b1 z.1.1 z.1.2.1 z.1.2.2) (fun z => codec_writer_numberLR a1 b1 z.1.1 z.1.2.1 z.1.2.2) (fun z => z.1.2.2) (fun _ => LoopsOk.none) (fun z => by obtain ⟨⟨v0, v1, g⟩, hi⟩ := z; kernel_rfl) (fun z => by obtain ⟨⟨v0, v1, g⟩, hi⟩ := z; kernel_rfl) (fun z => by obtain ⟨⟨v0, v1, g⟩, hi⟩ := z; kernel_rfl) ?_ z Q h
 rintro ⟨⟨v0, v1, g⟩, hi⟩ Q hT
 replace hT : (codec_writer_numberLT a1 b1 v0 v1 g).All Q := hT
 replace hi : (0 ≤ v0 ∧ v0 < 128 ^ g) ∧ v1.length + g ≤ b1.length + 10 := hi
 show (codec_writer_numberLR a1 b1 v0 v1 g).All _
 unfold codec_writer_numberLR
 refine ⟨fun h0 => ?_, fun h0 => ?_⟩
 · refine ⟨need_cons (by (try refine fun (_ : _ = _) => ?_); (try refine fun (_ : _ ∧ _) => ?_); (have h9 := hi.2; omega)) (need_nil), ?_⟩
   refine ⟨need_cons (by first | assumption | omega | (intro; omega) | (simp only [decide_eq_true_eq, decide_eq_false_iff_not, Bool.cond_false_right, Bool.cond_true_right, Bool.cond_true_left, Bool.cond_false_left, Bool.and_eq_true, Bool.or_eq_true, Bool.not_eq_true', bytesLim, maxLen, List.length_cons, List.length_nil, List.length_append, byteSize_lit] at *; omega) | (intro; simp only [decide_eq_true_eq, decide_eq_false_iff_not, Bool.cond_false_right, Bool.cond_true_right, Bool.cond_true_left, Bool.cond_false_left, Bool.and_eq_true, Bool.or_eq_true, Bool.not_eq_true', bytesLim, maxLen, List.length_cons, List.length_nil, List.length_append, byteSize_lit] at *; omega)) (need_nil), ?_⟩
   have h9 := h0
   try simp only [decide_eq_true_eq, decide_eq_false_iff_not] at h9
   have hq := num_step (of_decide_eq_true h0) hi.1
   have hF : codec_writer_numberLF (g + 1) v0 v1 = codec_writer_numberLF (g) (shrI .u64 v0 (7 : Int)) (codec_writer_byteF (bitsI .or .u8 (IntKind.u8.wrap (v0)) (128 : Int)) v1) := by simp only [codec_writer_numberLF, h0, cond_true, cond_false]
   refine ⟨⟨((shrI .u64 v0 (7 : Int)), codec_writer_byteF (bitsI .or .u8 (IntKind.u8.wrap (v0)) (128 : Int)) v1, (g - 1)), by (first | dsimp only | skip); exact ⟨hq.2, by rw [byte_len]; have h9 := hi.2; have h8 := hq.1; omega⟩⟩, by show (g - 1) < g; omega, ?_, ?_⟩
   · show _ = codec_writer_numberLS a1 b1 (shrI .u64 v0 (7 : Int)) (codec_writer_byteF (bitsI .or .u8 (IntKind.u8.wrap (v0)) (128 : Int)) v1) (g - 1)
     unfold codec_writer_numberLS
     rfl
   · show (codec_writer_numberLT a1 b1 (shrI .u64 v0 (7 : Int)) (codec_writer_byteF (bitsI .or .u8 (IntKind.u8.wrap (v0)) (128 : Int)) v1) (g - 1)).All Q
     unfold codec_writer_numberLT at hT ⊢
     rw [hF] at hT
     rw [show g = (g - 1) + 1 from by omega] at hT
     exact hT
 · have hF : codec_writer_numberLF (g + 1) v0 v1 = (v0, v1) := by simp only [codec_writer_numberLF, h0, cond_true, cond_false]
   unfold codec_writer_numberLT at hT
   rw [hF] at hT
   exact hT
theorem numberLF_len : ∀ (n : Nat) (v : Int) (l : List Int), (codec_writer_numberLF n v l).2.length ≤ l.length + n
 | 0, v, l => Nat.zero_le _
 | n + 1, v, l => by
  unfold codec_writer_numberLF
  cases decide (v > (127 : Int)) with
  | true =>
   have := numberLF_len n (shrI .u64 v (7 : Int)) (codec_writer_byteF (bitsI .or .u8 (IntKind.u8.wrap (v)) (128 : Int)) l)
   rw [byte_len] at this
   rw [cond_true]
   omega
  | false => exact Nat.le_add_right _ _
def codec_writer_numberF (a1 : Int) (b1 : List Int) : List Int :=
 codec_writer_byteF (IntKind.u8.wrap ((codec_writer_numberLF (10 + 1) a1 b1).1)) ((codec_writer_numberLF (10 + 1) a1 b1).2)
def codec_writer_numberR (a1 : Int) (b1 : List Int) : RT :=
 (.need [((codec_writer_numberLF (10 + 1) a1 b1).2).length ≤ 100000]
   (.leaf .normal ⟨slots 17 [], [.cells 78 [.vec 2], .dead, .vec false ⟨.int .u8, codec_writer_byteF (IntKind.u8.wrap ((codec_writer_numberLF (10 + 1) a1 b1).1)) ((codec_writer_numberLF (10 + 1) a1 b1).2)⟩]⟩ [0, 1, 3]))
theorem codec_writer_numberF_tr (a1 : Int) (b1 : List Int) (hp0 : b1.length ≤ 50000) (hp1 : 0 ≤ a1 ∧ a1 ≤ 18446744073709551615) : Tr Try.prog 2 (bodyOf Try.f58) (fnBegins Try.f58 [.ptr 0 0, .int .u64 a1] [.cells 78 [.vec 1], .vec false ⟨.int .u8, b1⟩]) (fnEnds Try.prog Try.f58 (.tup []) [.cells 78 [.vec 2], .dead, .vec false ⟨.int .u8, codec_writer_numberF a1 b1⟩]) := by
 refine Tr.pre (Turn.moveC 0 0 1 2 rfl rfl rfl (by simp [hset])) ?_
 refine Tr.post ?_
 refine Tr_tree (kok _ _ _ _ _ _) (E := E_codec_writer_number) (L := (loopsOf [(0, codec_writer_numberLS a1 b1 a1 b1 10, [], codec_writer_numberLT a1 b1 a1 b1 10)])) 60 9999 (LoopsOk.one (g := loopAt Try.f58 0) (b := 0) (by kernel_rfl) (by kernel_rfl) (by kernel_rfl) (by kernel_rfl) (fun Q h => codec_writer_numberL_loop a1 b1 hp0 hp1 ⟨(a1, b1, 10), ⟨num_start hp1, Nat.le_refl _⟩⟩ Q h)) (codec_writer_numberR a1 b1) (by kernel_rfl) (by kernel_rfl) (by kernel_rfl) ?_
 unfold codec_writer_numberR
 refine ⟨need_cons (by (try refine fun (_ : _ = _) => ?_); (try refine fun (_ : _ ∧ _) => ?_); (have h9 := numberLF_len (10 + 1) a1 b1; omega)) (need_nil), ?_⟩
 have hF : codec_writer_numberF a1 b1 = (codec_writer_byteF (IntKind.u8.wrap ((codec_writer_numberLF (10 + 1) a1 b1).1)) ((codec_writer_numberLF (10 + 1) a1 b1).2)) := rfl
 exact ⟨_, (Turn.moveC 0 0 2 3 rfl rfl rfl (by simp [hset])).trans (Turn.fits (p := ⟨slots 17 [], [.cells 78 [.vec 2], .dead, .vec false ⟨.int .u8, codec_writer_byteF (IntKind.u8.wrap ((codec_writer_numberLF (10 + 1) a1 b1).1)) ((codec_writer_numberLF (10 + 1) a1 b1).2)⟩]⟩) [0, 1, 3] (by kernel_rfl) (by kernel_rfl) (by kernel_rfl) (by kernel_rfl)), trivial, .inl (by first | (rw [hF]; kernel_rfl) | kernel_rfl), by first | (rw [hF]; kernel_rfl) | kernel_rfl⟩
noncomputable def codec_writer_number_fact : Fact Try.prog := factOf 58 Try.f58 (by kernel_rfl) rfl (by kernel_rfl) [.c (.ptr 0 0), .c (.int .u64)] [.cells 78 [.vec 1], .vec false (.int .u8)] false (fun t u => .tup []) (fun t u => [.cells 78 [.vec 2], .dead, .vec false ⟨.int .u8, codec_writer_numberF t.2.1 u.2.1⟩]) (fun t u => [u.2.1.length ≤ 50000, 0 ≤ t.2.1 ∧ t.2.1 ≤ 18446744073709551615])
 (nofun) (fun t u => by kernel_rfl) (fun t u => by kernel_rfl) (fun t u h => codec_writer_numberF_tr t.2.1 u.2.1 (h _ List.mem_cons_self) (h _ (List.mem_cons_of_mem _ List.mem_cons_self)))
noncomputable def E_codec_writer_text : Env := envOf (P := Try.prog) [codec_writer_number_fact] [] [] ckf true
theorem number_len (v : Int) (l : List Int) : (codec_writer_numberF v l).length ≤ l.length + 12 := by
 have := numberLF_len (10 + 1) v l
 unfold codec_writer_numberF
 rw [byte_len]
 omega
def codec_writer_textLF  : List ByteArray → List Int → List Int
 | [], v3 => v3
 | o :: r, v3 => codec_writer_textLF r ((codec_writer_numberF (IntKind.u64.wrap ((o.size : Int))) v3) ++ (strInts o))
def codec_writer_textLS (a1 : List ByteArray) (b1 : List Int) (i : Nat) (v3 : List Int) : St :=
 ⟨slots 27 [(0, .ptr 0 0), (6, .coll ⟨.str, a1⟩), (7, .int .i64 (a1.length : Int)), (8, .int .i64 (i : Int))], [.cells 78 [.vec 2], .dead, .vec false ⟨.int .u8, v3⟩]⟩
def codec_writer_textLR (a1 : List ByteArray) (b1 : List Int) (i : Nat) (v3 : List Int) : RT :=
 (.ask (decide ((i : Int) < (a1.length : Int)))
   (.need [0 ≤ (i : Int) ∧ (i : Int) < (a1.length : Int)]
     (.need [v3.length ≤ 50000, 0 ≤ (IntKind.u64.wrap (((a1.getD i default).size : Int))) ∧ (IntKind.u64.wrap (((a1.getD i default).size : Int))) ≤ 18446744073709551615]
       (.need [((codec_writer_numberF (IntKind.u64.wrap (((a1.getD i default).size : Int))) v3).length + (strInts (a1.getD i default)).length) * 1 ≤ bytesLim ∧ (codec_writer_numberF (IntKind.u64.wrap (((a1.getD i default).size : Int))) v3).length + (strInts (a1.getD i default)).length ≤ maxLen]
         (.leaf .normal ⟨slots 27 [(0, .ptr 0 0), (6, .coll ⟨.str, a1⟩), (7, .int .i64 (a1.length : Int)), (8, .int .i64 (IntKind.i64.wrap ((i : Int) + (1 : Int))))], [.cells 78 [.vec 2], .dead, .vec false ⟨.int .u8, ((codec_writer_numberF (IntKind.u64.wrap (((a1.getD i default).size : Int))) v3) ++ (strInts (a1.getD i default)))⟩]⟩ [0, 1, 4]))))
   (.leaf (.exit 0) ⟨slots 27 [], [.cells 78 [.vec 2], .dead, .vec false ⟨.int .u8, v3⟩]⟩ []))
def codec_writer_textLT (a1 : List ByteArray) (b1 : List Int) (i : Nat) (v3 : List Int) : Tree :=
 .leaf (.exit 0) ⟨slots 27 [], [.cells 78 [.vec 2], .dead, .vec false ⟨.int .u8, codec_writer_textLF (a1.drop i) v3⟩]⟩
theorem codec_writer_textL_loop (a1 : List ByteArray) (b1 : List Int) (hp0 : b1.length ≤ 20000) (hp1 : a1.length ≤ 10) (hp2 : ∀ q ∈ a1, q.size ≤ 40) (hlen : a1.length < 4611686018427387904) (z : { z : Nat × List Int // z.1 ≤ a1.length ∧ z.2.length ≤ b1.length + 60 * z.1 }) (Q : Exit → St → Prop) (h : (codec_writer_textLT a1 b1 z.1.1 z.1.2).All Q) : Tr Try.prog 2 (.loop (loopAt Try.f57 0)) (codec_writer_textLS a1 b1 z.1.1 z.1.2) Q := by
 refine Tr_loopT (kok _ _ _ _ _ _) (E := E_codec_writer_text) (ι := { z : Nat × List Int // z.1 ≤ a1.length ∧ z.2.length ≤ b1.length + 60 * z.1 }) 60 0 (fun _ => noLoops) (fun z => codec_writer_textLS a1 b1 z.1.1 z.1.2) (fun z => codec_writer_textLT a1 b1 z.1.1 z.1.2) (fun z => codec_writer_textLR a1 b1 z.1.1 z.1.2) (fun z => a1.length - z.1.1) (fun _ => LoopsOk.none) (fun z => by obtain ⟨⟨i, v3⟩, hi⟩ := z; kernel_rfl) (fun z => by obtain ⟨⟨i, v3⟩, hi⟩ := z; kernel_rfl) (fun z => by obtain ⟨⟨i, v3⟩, hi⟩ := z; kernel_rfl) ?_ z Q h
 rintro ⟨⟨i, v3⟩, hi⟩ Q hT
 replace hT : (codec_writer_textLT a1 b1 i v3).All Q := hT
 replace hi : i ≤ a1.length ∧ v3.length ≤ b1.length + 60 * i := hi
 show (codec_writer_textLR a1 b1 i v3).All _
 unfold codec_writer_textLR
 refine ⟨fun h0 => ?_, fun h0 => ?_⟩
 · have hlt : i < a1.length := by simpa using h0
   have hd := drop_getD hlt
   have hw := wrap_succ (i := i) (by omega)
   refine ⟨need_cons (by (try refine fun (_ : _ = _) => ?_); (try refine fun (_ : _ ∧ _) => ?_); (constructor <;> omega)) (need_nil), ?_⟩
   refine ⟨need_cons (by (try refine fun (_ : _ = _) => ?_); (try refine fun (_ : _ ∧ _) => ?_); omega) (need_cons (by (try refine fun (_ : _ = _) => ?_); (try refine fun (_ : _ ∧ _) => ?_); (have h9 := hp2 _ (gD_mem hlt); rw [u64_len h9]; constructor <;> omega)) (need_nil)), ?_⟩
   refine ⟨need_cons (by (try refine fun (_ : _ = _) => ?_); (try refine fun (_ : _ ∧ _) => ?_); (have h9 := hp2 _ (gD_mem hlt); have h8 := number_len (IntKind.u64.wrap ((a1.getD i default).size : Int)) v3; unfold bytesLim maxLen; rw [strInts_length]; omega)) (need_nil), ?_⟩
   have hF : codec_writer_textLF (a1.drop i) v3 = codec_writer_textLF (a1.drop (i + 1)) ((codec_writer_numberF (IntKind.u64.wrap (((a1.getD i default).size : Int))) v3) ++ (strInts (a1.getD i default))) := by rw [hd]; first | exact rfl | simp only [codec_writer_textLF, h0, cond_true, cond_false]
   refine ⟨⟨((i + 1), ((codec_writer_numberF (IntKind.u64.wrap (((a1.getD i default).size : Int))) v3) ++ (strInts (a1.getD i default)))), by (first | dsimp only | skip); (have h9 := hp2 _ (gD_mem hlt)); (have h8 := number_len (IntKind.u64.wrap ((a1.getD i default).size : Int)) v3); constructor <;> (try rw [List.length_append, strInts_length]) <;> omega⟩, by show a1.length - (i + 1) < a1.length - i; omega, ?_, ?_⟩
   · show _ = codec_writer_textLS a1 b1 (i + 1) ((codec_writer_numberF (IntKind.u64.wrap (((a1.getD i default).size : Int))) v3) ++ (strInts (a1.getD i default)))
     unfold codec_writer_textLS
     simp only [hw]
   · show (codec_writer_textLT a1 b1 (i + 1) ((codec_writer_numberF (IntKind.u64.wrap (((a1.getD i default).size : Int))) v3) ++ (strInts (a1.getD i default)))).All Q
     unfold codec_writer_textLT at hT ⊢
     rw [hF] at hT
     exact hT
 · have hge : ¬ i < a1.length := by simpa using h0
   have hd : a1.drop i = [] := List.drop_eq_nil_of_le (by omega)
   have hF : codec_writer_textLF (a1.drop i) v3 = v3 := by rw [hd]; first | exact rfl | simp only [codec_writer_textLF, h0, cond_true, cond_false]
   unfold codec_writer_textLT at hT
   rw [hF] at hT
   exact hT
def codec_writer_textF (a1 : List ByteArray) (b1 : List Int) : List Int :=
 codec_writer_textLF a1 b1
def codec_writer_textR (a1 : List ByteArray) (b1 : List Int) : RT :=
 (.leaf .normal ⟨slots 27 [], [.cells 78 [.vec 2], .dead, .vec false ⟨.int .u8, codec_writer_textLF a1 b1⟩]⟩ [])
theorem codec_writer_textF_tr (a1 : List ByteArray) (b1 : List Int) (hp0 : b1.length ≤ 20000) (hp1 : a1.length ≤ 10) (hp2 : ∀ q ∈ a1, q.size ≤ 40) : Tr Try.prog 2 (bodyOf Try.f57) (fnBegins Try.f57 [.ptr 0 0, .coll ⟨.str, a1⟩] [.cells 78 [.vec 1], .vec false ⟨.int .u8, b1⟩]) (fnEnds Try.prog Try.f57 (.tup []) [.cells 78 [.vec 2], .dead, .vec false ⟨.int .u8, codec_writer_textF a1 b1⟩]) := by
 refine Tr.pre (Turn.moveC 0 0 1 2 rfl rfl rfl (by simp [hset])) ?_
 refine Tr.post ?_
 refine Tr_tree (kok _ _ _ _ _ _) (E := E_codec_writer_text) (L := (loopsOf [(0, codec_writer_textLS a1 b1 0 b1, [], codec_writer_textLT a1 b1 0 b1)])) 60 9999 (LoopsOk.one (g := loopAt Try.f57 0) (b := 0) (by kernel_rfl) (by kernel_rfl) (by kernel_rfl) (by kernel_rfl) (fun Q h => codec_writer_textL_loop a1 b1 hp0 hp1 hp2 (by omega) ⟨(0, b1), ⟨Nat.zero_le _, Nat.le_refl _⟩⟩ Q h)) (codec_writer_textR a1 b1) (by kernel_rfl) (by kernel_rfl) (by kernel_rfl) ?_
 unfold codec_writer_textR
 have hF : codec_writer_textF a1 b1 = (codec_writer_textLF a1 b1) := rfl
 exact ⟨_, (Turn.moveC 0 0 2 3 rfl rfl rfl (by simp [hset])).trans (Turn.fits (p := ⟨slots 27 [], [.cells 78 [.vec 2], .dead, .vec false ⟨.int .u8, codec_writer_textLF a1 b1⟩]⟩) [0, 1, 3] (by kernel_rfl) (by kernel_rfl) (by kernel_rfl) (by kernel_rfl)), trivial, .inl (by first | (rw [hF]; kernel_rfl) | kernel_rfl), by first | (rw [hF]; kernel_rfl) | kernel_rfl⟩
noncomputable def codec_writer_text_fact : Fact Try.prog := factOf 57 Try.f57 (by kernel_rfl) rfl (by kernel_rfl) [.c (.ptr 0 0), .c (.coll .str)] [.cells 78 [.vec 1], .vec false (.int .u8)] false (fun t u => .tup []) (fun t u => [.cells 78 [.vec 2], .dead, .vec false ⟨.int .u8, codec_writer_textF t.2.1 u.2.1⟩]) (fun t u => [u.2.1.length ≤ 20000, t.2.1.length ≤ 10, ∀ q ∈ t.2.1, q.size ≤ 40])
 (nofun) (fun t u => by kernel_rfl) (fun t u => by kernel_rfl) (fun t u h => codec_writer_textF_tr t.2.1 u.2.1 (h _ List.mem_cons_self) (h _ (List.mem_cons_of_mem _ List.mem_cons_self)) (h _ (List.mem_cons_of_mem _ (List.mem_cons_of_mem _ List.mem_cons_self))))
noncomputable def E_codec_flags : Env := envOf (P := Try.prog) [] [] [] ckf
def codec_flagsLF  : List Bool → Int → Nat → Int
 | [], v0, i => v0
 | o :: r, v0, i => cond o
  (codec_flagsLF r (bitsI .or .u8 v0 (shlI .u8 (1 : Int) (i : Int))) (i + 1))
  (codec_flagsLF r v0 (i + 1))
def codec_flagsLS (a0 : List Bool) (v0 : Int) (i : Nat) : St :=
 ⟨slots 19 [(2, .int .u8 v0), (5, .coll ⟨.bool, a0⟩), (6, .int .i64 (a0.length : Int)), (7, .int .i64 (i : Int))], []⟩
def codec_flagsLR (a0 : List Bool) (v0 : Int) (i : Nat) : RT :=
 (.ask (decide ((i : Int) < (a0.length : Int)))
   (.need [0 ≤ (i : Int) ∧ (i : Int) < (a0.length : Int)]
     (.ask (a0.getD i default)
       (.need [0 ≤ (i : Int)]
         (.leaf .normal ⟨slots 19 [(2, .int .u8 (bitsI .or .u8 v0 (shlI .u8 (1 : Int) (i : Int)))), (5, .coll ⟨.bool, a0⟩), (6, .int .i64 (a0.length : Int)), (7, .int .i64 (IntKind.i64.wrap ((i : Int) + (1 : Int))))], []⟩ []))
       (.leaf .normal ⟨slots 19 [(2, .int .u8 v0), (5, .coll ⟨.bool, a0⟩), (6, .int .i64 (a0.length : Int)), (7, .int .i64 (IntKind.i64.wrap ((i : Int) + (1 : Int))))], []⟩ [])))
   (.leaf (.exit 0) ⟨slots 19 [(2, .int .u8 v0)], []⟩ []))
def codec_flagsLT (a0 : List Bool) (v0 : Int) (i : Nat) : Tree :=
 .leaf (.exit 0) ⟨slots 19 [(2, .int .u8 (codec_flagsLF (a0.drop i) v0 i))], []⟩
theorem codec_flagsL_loop (a0 : List Bool) (hp0 : a0.length ≤ 4) (hlen : a0.length < 4611686018427387904) (z : { z : Int × Nat // z.2 ≤ a0.length }) (Q : Exit → St → Prop) (h : (codec_flagsLT a0 z.1.1 z.1.2).All Q) : Tr Try.prog 0 (.loop (loopAt Try.f59 0)) (codec_flagsLS a0 z.1.1 z.1.2) Q := by
 refine Tr_loopT (kok _ _ _ _ _ _) (E := E_codec_flags) (ι := { z : Int × Nat // z.2 ≤ a0.length }) 60 0 (fun _ => noLoops) (fun z => codec_flagsLS a0 z.1.1 z.1.2) (fun z => codec_flagsLT a0 z.1.1 z.1.2) (fun z => codec_flagsLR a0 z.1.1 z.1.2) (fun z => a0.length - z.1.2) (fun _ => LoopsOk.none) (fun z => by obtain ⟨⟨v0, i⟩, hi⟩ := z; kernel_rfl) (fun z => by obtain ⟨⟨v0, i⟩, hi⟩ := z; kernel_rfl) (fun z => by obtain ⟨⟨v0, i⟩, hi⟩ := z; kernel_rfl) ?_ z Q h
 rintro ⟨⟨v0, i⟩, hi⟩ Q hT
 replace hT : (codec_flagsLT a0 v0 i).All Q := hT
 replace hi : i ≤ a0.length := hi
 show (codec_flagsLR a0 v0 i).All _
 unfold codec_flagsLR
 refine ⟨fun h0 => ?_, fun h0 => ?_⟩
 · have hlt : i < a0.length := by simpa using h0
   have hd := drop_getD hlt
   have hw := wrap_succ (i := i) (by omega)
   refine ⟨need_cons (by (try refine fun (_ : _ = _) => ?_); (try refine fun (_ : _ ∧ _) => ?_); first | omega | (constructor <;> omega)) (need_nil), ?_⟩
   refine ⟨fun h1 => ?_, fun h1 => ?_⟩
   · refine ⟨need_cons (by (try refine fun (_ : _ = _) => ?_); (try refine fun (_ : _ ∧ _) => ?_); first | omega | (constructor <;> omega)) (need_nil), ?_⟩
     have hF : codec_flagsLF (a0.drop i) v0 i = codec_flagsLF (a0.drop (i + 1)) (bitsI .or .u8 v0 (shlI .u8 (1 : Int) (i : Int))) (i + 1) := by rw [hd]; first | exact (cond_t h1 rfl) | simp only [codec_flagsLF, h0, h1, cond_true, cond_false]
     refine ⟨⟨((bitsI .or .u8 v0 (shlI .u8 (1 : Int) (i : Int))), (i + 1)), by show (i + 1) ≤ a0.length; omega⟩, by show a0.length - (i + 1) < a0.length - i; omega, ?_, ?_⟩
     · show _ = codec_flagsLS a0 (bitsI .or .u8 v0 (shlI .u8 (1 : Int) (i : Int))) (i + 1)
       unfold codec_flagsLS
       simp only [hw]
     · show (codec_flagsLT a0 (bitsI .or .u8 v0 (shlI .u8 (1 : Int) (i : Int))) (i + 1)).All Q
       unfold codec_flagsLT at hT ⊢
       rw [hF] at hT
       exact hT
   · have hF : codec_flagsLF (a0.drop i) v0 i = codec_flagsLF (a0.drop (i + 1)) v0 (i + 1) := by rw [hd]; first | exact (cond_f h1 rfl) | simp only [codec_flagsLF, h0, h1, cond_true, cond_false]
     refine ⟨⟨(v0, (i + 1)), by show (i + 1) ≤ a0.length; omega⟩, by show a0.length - (i + 1) < a0.length - i; omega, ?_, ?_⟩
     · show _ = codec_flagsLS a0 v0 (i + 1)
       unfold codec_flagsLS
       simp only [hw]
     · show (codec_flagsLT a0 v0 (i + 1)).All Q
       unfold codec_flagsLT at hT ⊢
       rw [hF] at hT
       exact hT
 · have hge : ¬ i < a0.length := by simpa using h0
   have hd : a0.drop i = [] := List.drop_eq_nil_of_le (by omega)
   have hF : codec_flagsLF (a0.drop i) v0 i = v0 := by rw [hd]; first | exact rfl | simp only [codec_flagsLF, h0, cond_true, cond_false]
   unfold codec_flagsLT at hT
   rw [hF] at hT
   exact hT
def codec_flagsF (a0 : List Bool) : Int :=
 (codec_flagsLF a0 (0 : Int) 0)
def codec_flagsR (a0 : List Bool) : RT :=
 (.leaf .ret ⟨slots 19 [(2, .int .u8 (codec_flagsLF a0 (0 : Int) 0))], []⟩ [])
theorem codec_flagsF_tr (a0 : List Bool) (hp0 : a0.length ≤ 4) : Tr Try.prog 0 (bodyOf Try.f59) (fnBegins Try.f59 [.coll ⟨.bool, a0⟩] []) (fnEnds Try.prog Try.f59 (.int .u8 (codec_flagsF a0)) []) := by
 refine Tr_tree (kok _ _ _ _ _ _) (E := E_codec_flags) (L := (loopsOf [(0, codec_flagsLS a0 (0 : Int) 0, [], codec_flagsLT a0 (0 : Int) 0)])) 60 9999 (LoopsOk.one (g := loopAt Try.f59 0) (b := 0) (by kernel_rfl) (by kernel_rfl) (by kernel_rfl) (by kernel_rfl) (fun Q h => codec_flagsL_loop a0 hp0 (by first | assumption | omega | (simp only [List.length_cons, List.length_nil, List.length_append]; omega)) ⟨((0 : Int), 0), by first | exact Nat.zero_le _ | (show 0 ≤ a0.length; omega) | (show 0 ≤ a0.length; exact ⟨Nat.zero_le _, by assumption⟩) | (show 0 ≤ a0.length; simp)⟩ Q h)) (codec_flagsR a0) (by kernel_rfl) (by kernel_rfl) (by kernel_rfl) ?_
 unfold codec_flagsR
 exact ⟨trivial, .inl (by kernel_rfl), by kernel_rfl⟩
noncomputable def codec_flags_fact : Fact Try.prog := factOf 59 Try.f59 (by kernel_rfl) rfl (by kernel_rfl) [.c (.coll .bool)] [] true (fun t u => .int .u8 (codec_flagsF t.1)) (fun t u => []) (fun t u => [t.1.length ≤ 4])
 (fun _ _ _ => rfl) (fun t u => by kernel_rfl) (fun t u => by kernel_rfl) (fun t u h => codec_flagsF_tr t.1 (h _ List.mem_cons_self))
end Go.Proofs.Ytbjifeobhenkfaa
