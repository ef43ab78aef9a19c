/- The law CallRefused. -/
import Derived.Test.YtpffbkbadnhmmaaDPLX
import Derived.Test.YtpffbkbadnhmmaaDCallAlike
set_option linter.unusedVariables false
set_option linter.unusedSimpArgs false
set_option maxRecDepth 100000
namespace Go.Proofs.Ytpffbkbadnhmmaa
open Go Go.Eng
noncomputable def Z224 : Env := Z62 (P := Try.prog) [Z1c7, Z1c8, Zd9, Z8b, Z19d, Zd8] [] [] ckf true
abbrev kCr0 (a1 : XCall) (a0 : List XDeed2) := (Z0 a1 (3 : Int) ((Z0 a1 (1 : Int) ((Z4 a0).2.1) ((Z4 a0).2.2.2.1) ((Z4 a0).2.2.2.2.1) ((Z4 a0).2.2.2.2.2.1) ((Z4 a0).2.2.2.2.2.2.1)).2.2.2.2.2) ((Z0 a1 (1 : Int) ((Z4 a0).2.1) ((Z4 a0).2.2.2.1) ((Z4 a0).2.2.2.2.1) ((Z4 a0).2.2.2.2.2.1) ((Z4 a0).2.2.2.2.2.2.1)).2.1) ((Z0 a1 (1 : Int) ((Z4 a0).2.1) ((Z4 a0).2.2.2.1) ((Z4 a0).2.2.2.2.1) ((Z4 a0).2.2.2.2.2.1) ((Z4 a0).2.2.2.2.2.2.1)).2.2.1) ((Z0 a1 (1 : Int) ((Z4 a0).2.1) ((Z4 a0).2.2.2.1) ((Z4 a0).2.2.2.2.1) ((Z4 a0).2.2.2.2.2.1) ((Z4 a0).2.2.2.2.2.2.1)).2.2.2.1) ((Z0 a1 (1 : Int) ((Z4 a0).2.1) ((Z4 a0).2.2.2.1) ((Z4 a0).2.2.2.2.1) ((Z4 a0).2.2.2.2.2.1) ((Z4 a0).2.2.2.2.2.2.1)).2.2.2.2.1))
abbrev kCr1 (a0 : List XDeed2) := (Z18 ((Z4 a0).2.1) ((Z4 a0).2.2.2.1) ((Z4 a0).2.2.2.2.1) ((Z4 a0).2.2.2.2.2.1) ((Z4 a0).2.2.2.2.2.2.1))
abbrev kCr2 (a1 : XCall) (a0 : List XDeed2) := (cond (((((Z0 a1 (1 : Int) ((Z4 a0).2.1) ((Z4 a0).2.2.2.1) ((Z4 a0).2.2.2.2.1) ((Z4 a0).2.2.2.2.2.1) ((Z4 a0).2.2.2.2.2.2.1)).1).err) == (10 : Int)) && (((((Z0 a1 (1 : Int) ((Z4 a0).2.1) ((Z4 a0).2.2.2.1) ((Z4 a0).2.2.2.2.1) ((Z4 a0).2.2.2.2.2.1) ((Z4 a0).2.2.2.2.2.2.1)).1).size) == (0 : Int)) && ((decide ((((Z0 a1 (1 : Int) ((Z4 a0).2.1) ((Z4 a0).2.2.2.1) ((Z4 a0).2.2.2.2.1) ((Z4 a0).2.2.2.2.2.1) ((Z4 a0).2.2.2.2.2.2.1)).1).zone) = (⟨#[]⟩ : BA))) && ((((Z0 a1 (1 : Int) ((Z4 a0).2.1) ((Z4 a0).2.2.2.1) ((Z4 a0).2.2.2.2.1) ((Z4 a0).2.2.2.2.2.1) ((Z4 a0).2.2.2.2.2.2.1)).1).tag) == (0 : Int))))) (((((kCr0 a1 a0).1).err) == (13 : Int)) && (((((kCr0 a1 a0).1).size) == (0 : Int)) && ((decide ((((kCr0 a1 a0).1).zone) = (⟨#[]⟩ : BA))) && ((((kCr0 a1 a0).1).tag) == (0 : Int))))) false)
abbrev kCr3 (a1 : XCall) (a0 : List XDeed2) := (Ze5 ((kCr0 a1 a0).2.2.2.2.2) ((kCr1 a0).1) ((kCr0 a1 a0).2.1) ((kCr0 a1 a0).2.2.1) ((kCr0 a1 a0).2.2.2.1) ((kCr0 a1 a0).2.2.2.2.1) ((kCr1 a0).2.1) ((kCr1 a0).2.2.1) ((kCr1 a0).2.2.2.1) ((kCr1 a0).2.2.2.2))
abbrev kCr4 (a1 : XCall) (a0 : List XDeed2) := (cond (cond (kCr2 a1 a0) (kCr3 a1 a0) false) (((Z44 ((kCr0 a1 a0).2.2.2.2.2) ((kCr0 a1 a0).2.1) ((kCr0 a1 a0).2.2.1) ((kCr0 a1 a0).2.2.2.1) ((kCr0 a1 a0).2.2.2.2.1)).length : Int) == (IntKind.i64.wrap (((Z44 ((kCr1 a0).1) ((kCr1 a0).2.1) ((kCr1 a0).2.2.1) ((kCr1 a0).2.2.2.1) ((kCr1 a0).2.2.2.2)).length : Int) + (2 : Int)))) false)
abbrev kCr5 (a1 : XCall) (a0 : List XDeed2) := (cond (cond ((((kCr0 a1 a0).1).err) == (2 : Int)) (kCr3 a1 a0) false) (((Z44 ((kCr0 a1 a0).2.2.2.2.2) ((kCr0 a1 a0).2.1) ((kCr0 a1 a0).2.2.1) ((kCr0 a1 a0).2.2.2.1) ((kCr0 a1 a0).2.2.2.2.1)).length : Int) == ((Z44 ((kCr1 a0).1) ((kCr1 a0).2.1) ((kCr1 a0).2.2.1) ((kCr1 a0).2.2.2.1) ((kCr1 a0).2.2.2.2)).length : Int)) false)
def Z60 (a0 : List XDeed2) (a1 : XCall) : Bool :=
 cond (cond (!Zd0) true (!((Z4 a0).1)))
  false
  (cond ((((Z0 a1 (1 : Int) ((Z4 a0).2.1) ((Z4 a0).2.2.2.1) ((Z4 a0).2.2.2.2.1) ((Z4 a0).2.2.2.2.2.1) ((Z4 a0).2.2.2.2.2.2.1)).1).err) == (2 : Int))
    (kCr5 a1 a0)
    (kCr4 a1 a0))
def Z13c (a0 : List XDeed2) (a1 : XCall) : RT :=
 (.need [∀ x ∈ a0, D2 x]
   (.ask (cond (!Zd0) true (!((Z4 a0).1)))
     (.leaf .ret ⟨Z9 74 [(4, .bool false)], []⟩ [])
     (.need [((Z4 a0).2.1).length ≤ 1000000]
       (.need [CS a1]
         (.need [CS a1]
           (.ask ((((Z0 a1 (1 : Int) ((Z4 a0).2.1) ((Z4 a0).2.2.2.1) ((Z4 a0).2.2.2.2.1) ((Z4 a0).2.2.2.2.2.1) ((Z4 a0).2.2.2.2.2.2.1)).1).err) == (2 : Int))
             (.need [(((((kCr0 a1 a0).1).err) == (2 : Int)) = true) → (VB ((kCr0 a1 a0).2.2.1)), (((((kCr0 a1 a0).1).err) == (2 : Int)) = true) → (VB ((kCr1 a0).2.2.1)), (((((kCr0 a1 a0).1).err) == (2 : Int)) = true) → (NK ((kCr0 a1 a0).2.2.2.1)), (((((kCr0 a1 a0).1).err) == (2 : Int)) = true) → (NK ((kCr1 a0).2.2.2.1)), (((((kCr0 a1 a0).1).err) == (2 : Int)) = true) → ((Z4e ((kCr0 a1 a0).2.1) ((kCr0 a1 a0).2.2.1) ((kCr0 a1 a0).2.2.2.1) ((kCr0 a1 a0).2.2.2.2.1)).length ≤ 1000), (((((kCr0 a1 a0).1).err) == (2 : Int)) = true) → (∀ v ∈ Z4e ((kCr0 a1 a0).2.1) ((kCr0 a1 a0).2.2.1) ((kCr0 a1 a0).2.2.2.1) ((kCr0 a1 a0).2.2.2.2.1), v.nodes.length ≤ 1000), (((((kCr0 a1 a0).1).err) == (2 : Int)) = true) → ((Z89 ((kCr0 a1 a0).2.1) ((kCr0 a1 a0).2.2.1) ((kCr0 a1 a0).2.2.2.1) ((kCr0 a1 a0).2.2.2.2.1)).length ≤ 1000)]
               (.need [((cond ((((kCr0 a1 a0).1).err) == (2 : Int)) (kCr3 a1 a0) false) = true) → (((kCr0 a1 a0).2.2.2.2.2).length ≤ 1000000)]
                 (.need [((cond ((((kCr0 a1 a0).1).err) == (2 : Int)) (kCr3 a1 a0) false) = true) → (((kCr1 a0).1).length ≤ 1000000)]
                   (.leaf .ret ⟨Z9 74 [(4, .bool (kCr5 a1 a0))], []⟩ []))))
             (.need [((kCr2 a1 a0) = true) → (VB ((kCr0 a1 a0).2.2.1)), ((kCr2 a1 a0) = true) → (VB ((kCr1 a0).2.2.1)), ((kCr2 a1 a0) = true) → (NK ((kCr0 a1 a0).2.2.2.1)), ((kCr2 a1 a0) = true) → (NK ((kCr1 a0).2.2.2.1)), ((kCr2 a1 a0) = true) → ((Z4e ((kCr0 a1 a0).2.1) ((kCr0 a1 a0).2.2.1) ((kCr0 a1 a0).2.2.2.1) ((kCr0 a1 a0).2.2.2.2.1)).length ≤ 1000), ((kCr2 a1 a0) = true) → (∀ v ∈ Z4e ((kCr0 a1 a0).2.1) ((kCr0 a1 a0).2.2.1) ((kCr0 a1 a0).2.2.2.1) ((kCr0 a1 a0).2.2.2.2.1), v.nodes.length ≤ 1000), ((kCr2 a1 a0) = true) → ((Z89 ((kCr0 a1 a0).2.1) ((kCr0 a1 a0).2.2.1) ((kCr0 a1 a0).2.2.2.1) ((kCr0 a1 a0).2.2.2.2.1)).length ≤ 1000)]
               (.need [((cond (kCr2 a1 a0) (kCr3 a1 a0) false) = true) → (((kCr0 a1 a0).2.2.2.2.2).length ≤ 1000000)]
                 (.need [((cond (kCr2 a1 a0) (kCr3 a1 a0) false) = true) → (((kCr1 a0).1).length ≤ 1000000)]
                   (.leaf .ret ⟨Z9 74 [(4, .bool (kCr4 a1 a0))], []⟩ []))))))))))
theorem Z1ae (a0 : List XDeed2) (a1 : XCall) (hp0 : ∀ x ∈ a0, D2 x) (hp1 : CS a1) : Tr Try.prog 0 (Z3b Try.f16) (Z25 Try.f16 [.coll ⟨.deed2, a0⟩, .agg (cc a1)] []) (Z46 Try.prog Try.f16 (.bool (Z60 a0 a1)) []) := by
 refine Z2f (kok _ _ _ _ _ _) (E := Z224) (L := Z30) 60 9999 Z13.none (Z13c a0 a1) (by kernel_rfl) (by kernel_rfl) (by kernel_rfl) ?_
 unfold Z13c
 refine ⟨Z2 (by (try refine fun (_ : _ = _) => ?_); assumption) (Z7), ?_⟩
 refine ⟨fun h0 => ?_, fun h0 => ?_⟩
 · have hF : Z60 a0 a1 = false := by first | exact (Z11 h0 rfl) | simp only [Z60, h0, cond_true, cond_false]
   exact ⟨trivial, .inl (by (try rw [hF]); kernel_rfl), by (try rw [hF]); kernel_rfl⟩
 · refine ⟨Z2 (by (try refine fun (_ : _ = _) => ?_); (try simp only [kCr0, kCr1, kCr2, kCr3, kCr4, kCr5]); exact PC.len (by (repeat (first | exact Z80 hp0 | exact Z8d hp0 hp1 | exact hp1 | exact hp1.1 | decide | exact hp1.2 | apply Z79 | apply Z72 | apply Z8e))) (by decide)) (Z7), ?_⟩
   refine ⟨Z2 (by (try refine fun (_ : _ = _) => ?_); first | assumption | exact hp1.1) (Z7), ?_⟩
   refine ⟨Z2 (by (try refine fun (_ : _ = _) => ?_); first | assumption | exact hp1.1) (Z7), ?_⟩
   refine ⟨fun h1 => ?_, fun h1 => ?_⟩
   · refine ⟨(by (iterate 2 refine Z2 (by (try refine fun (_ : _ = _) => ?_); (try simp only [kCr0, kCr1, kCr2, kCr3, kCr4, kCr5]); exact PC.vb (by (repeat (first | exact Z80 hp0 | exact Z8d hp0 hp1 | exact hp1 | exact hp1.1 | decide | exact hp1.2 | apply Z79 | apply Z72 | apply Z8e))) (by decide)) ?_); (iterate 2 refine Z2 (by (try refine fun (_ : _ = _) => ?_); (try simp only [kCr0, kCr1, kCr2, kCr3, kCr4, kCr5]); exact PC.nk (by (repeat (first | exact Z80 hp0 | exact Z8d hp0 hp1 | exact hp1 | exact hp1.1 | decide | exact hp1.2 | apply Z79 | apply Z72 | apply Z8e))) (by decide)) ?_); refine Z2 (by (try refine fun (_ : _ = _) => ?_); (try simp only [kCr0, kCr1, kCr2, kCr3, kCr4, kCr5]); exact PC.vl (by (repeat (first | exact Z80 hp0 | exact Z8d hp0 hp1 | exact hp1 | exact hp1.1 | decide | exact hp1.2 | apply Z79 | apply Z72 | apply Z8e))) (by decide)) ?_; refine Z2 (by (try refine fun (_ : _ = _) => ?_); (try simp only [kCr0, kCr1, kCr2, kCr3, kCr4, kCr5]); exact PC.vn (by (repeat (first | exact Z80 hp0 | exact Z8d hp0 hp1 | exact hp1 | exact hp1.1 | decide | exact hp1.2 | apply Z79 | apply Z72 | apply Z8e))) (by decide)) ?_; refine Z2 (by (try refine fun (_ : _ = _) => ?_); (try simp only [kCr0, kCr1, kCr2, kCr3, kCr4, kCr5]); exact PC.sl (by (repeat (first | exact Z80 hp0 | exact Z8d hp0 hp1 | exact hp1 | exact hp1.1 | decide | exact hp1.2 | apply Z79 | apply Z72 | apply Z8e))) (by decide)) ?_; exact Z7), ?_⟩
     refine ⟨Z2 (by (try refine fun (_ : _ = _) => ?_); (try simp only [kCr0, kCr1, kCr2, kCr3, kCr4, kCr5]); exact PC.len (by (repeat (first | exact Z80 hp0 | exact Z8d hp0 hp1 | exact hp1 | exact hp1.1 | decide | exact hp1.2 | apply Z79 | apply Z72 | apply Z8e))) (by decide)) (Z7), ?_⟩
     refine ⟨Z2 (by (try refine fun (_ : _ = _) => ?_); (try simp only [kCr0, kCr1, kCr2, kCr3, kCr4, kCr5]); exact PC.len (by (repeat (first | exact Z80 hp0 | exact Z8d hp0 hp1 | exact hp1 | exact hp1.1 | decide | exact hp1.2 | apply Z79 | apply Z72 | apply Z8e))) (by decide)) (Z7), ?_⟩
     have hF : Z60 a0 a1 = (kCr5 a1 a0) := by first | exact (Z3 h0 (Z11 h1 rfl)) | simp only [Z60, h0, h1, cond_true, cond_false]
     exact ⟨trivial, .inl (by (try rw [hF]); kernel_rfl), by (try rw [hF]); kernel_rfl⟩
   · refine ⟨(by (iterate 2 refine Z2 (by (try refine fun (_ : _ = _) => ?_); (try simp only [kCr0, kCr1, kCr2, kCr3, kCr4, kCr5]); exact PC.vb (by (repeat (first | exact Z80 hp0 | exact Z8d hp0 hp1 | exact hp1 | exact hp1.1 | decide | exact hp1.2 | apply Z79 | apply Z72 | apply Z8e))) (by decide)) ?_); (iterate 2 refine Z2 (by (try refine fun (_ : _ = _) => ?_); (try simp only [kCr0, kCr1, kCr2, kCr3, kCr4, kCr5]); exact PC.nk (by (repeat (first | exact Z80 hp0 | exact Z8d hp0 hp1 | exact hp1 | exact hp1.1 | decide | exact hp1.2 | apply Z79 | apply Z72 | apply Z8e))) (by decide)) ?_); refine Z2 (by (try refine fun (_ : _ = _) => ?_); (try simp only [kCr0, kCr1, kCr2, kCr3, kCr4, kCr5]); exact PC.vl (by (repeat (first | exact Z80 hp0 | exact Z8d hp0 hp1 | exact hp1 | exact hp1.1 | decide | exact hp1.2 | apply Z79 | apply Z72 | apply Z8e))) (by decide)) ?_; refine Z2 (by (try refine fun (_ : _ = _) => ?_); (try simp only [kCr0, kCr1, kCr2, kCr3, kCr4, kCr5]); exact PC.vn (by (repeat (first | exact Z80 hp0 | exact Z8d hp0 hp1 | exact hp1 | exact hp1.1 | decide | exact hp1.2 | apply Z79 | apply Z72 | apply Z8e))) (by decide)) ?_; refine Z2 (by (try refine fun (_ : _ = _) => ?_); (try simp only [kCr0, kCr1, kCr2, kCr3, kCr4, kCr5]); exact PC.sl (by (repeat (first | exact Z80 hp0 | exact Z8d hp0 hp1 | exact hp1 | exact hp1.1 | decide | exact hp1.2 | apply Z79 | apply Z72 | apply Z8e))) (by decide)) ?_; exact Z7), ?_⟩
     refine ⟨Z2 (by (try refine fun (_ : _ = _) => ?_); (try simp only [kCr0, kCr1, kCr2, kCr3, kCr4, kCr5]); exact PC.len (by (repeat (first | exact Z80 hp0 | exact Z8d hp0 hp1 | exact hp1 | exact hp1.1 | decide | exact hp1.2 | apply Z79 | apply Z72 | apply Z8e))) (by decide)) (Z7), ?_⟩
     refine ⟨Z2 (by (try refine fun (_ : _ = _) => ?_); (try simp only [kCr0, kCr1, kCr2, kCr3, kCr4, kCr5]); exact PC.len (by (repeat (first | exact Z80 hp0 | exact Z8d hp0 hp1 | exact hp1 | exact hp1.1 | decide | exact hp1.2 | apply Z79 | apply Z72 | apply Z8e))) (by decide)) (Z7), ?_⟩
     have hF : Z60 a0 a1 = (kCr4 a1 a0) := by first | exact (Z3 h0 (Z3 h1 rfl)) | simp only [Z60, h0, h1, cond_true, cond_false]
     exact ⟨trivial, .inl (by (try rw [hF]); kernel_rfl), by (try rw [hF]); kernel_rfl⟩
end Go.Proofs.Ytpffbkbadnhmmaa
