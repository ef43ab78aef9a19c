/- The law CallOnce. -/
import Derived.Test.YtpffbkbadnhmmaaDPLX
import Derived.Test.YtpffbkbadnhmmaaDCallAlike
set_option linter.unusedVariables false
set_option linter.unusedSimpArgs false
set_option maxRecDepth 100000
namespace Go.Proofs.Ytpffbkbadnhmmaa
open Go Go.Eng
noncomputable def Z1ab : Env := Z62 (P := Try.prog) [Z1c7, Z1c8, Zd9, Z8b, Z19d] [] [] ckf true
def Z15 (a1 : XCall) (a2 : List Bool) : Nat → Nat → LK → LA → LB → LC → LD → LK × LA × LB × LC × LD
 | 0, _, _, _, _, _, _ => (default, default, default, default, default)
 | n + 1, i, v4, v6, v7, v8, v9 => cond (cond (decide ((i : Int) < (a2.length : Int))) (decide ((i : Int) < (10 : Int))) false)
  (cond (a2.getD i default)
    (Z15 a1 a2 n (i + 1) ((Z0 a1 (2 : Int) v4 v6 v7 v8 v9).2.2.2.2.2) ((Z0 a1 (2 : Int) v4 v6 v7 v8 v9).2.1) ((Z0 a1 (2 : Int) v4 v6 v7 v8 v9).2.2.1) ((Z0 a1 (2 : Int) v4 v6 v7 v8 v9).2.2.2.1) ((Z0 a1 (2 : Int) v4 v6 v7 v8 v9).2.2.2.2.1))
    (Z15 a1 a2 n (i + 1) ((Z0 a1 (3 : Int) v4 v6 v7 v8 v9).2.2.2.2.2) ((Z0 a1 (3 : Int) v4 v6 v7 v8 v9).2.1) ((Z0 a1 (3 : Int) v4 v6 v7 v8 v9).2.2.1) ((Z0 a1 (3 : Int) v4 v6 v7 v8 v9).2.2.2.1) ((Z0 a1 (3 : Int) v4 v6 v7 v8 v9).2.2.2.2.1)))
  (v4, v6, v7, v8, v9)
abbrev kCo0 (a1 : XCall) (a0 : List XDeed2) := (Z0 a1 (0 : Int) ((Z18 ((Z4 a0).2.1) ((Z4 a0).2.2.2.1) ((Z4 a0).2.2.2.2.1) ((Z4 a0).2.2.2.2.2.1) ((Z4 a0).2.2.2.2.2.2.1)).1) ((Z18 ((Z4 a0).2.1) ((Z4 a0).2.2.2.1) ((Z4 a0).2.2.2.2.1) ((Z4 a0).2.2.2.2.2.1) ((Z4 a0).2.2.2.2.2.2.1)).2.1) ((Z18 ((Z4 a0).2.1) ((Z4 a0).2.2.2.1) ((Z4 a0).2.2.2.2.1) ((Z4 a0).2.2.2.2.2.1) ((Z4 a0).2.2.2.2.2.2.1)).2.2.1) ((Z18 ((Z4 a0).2.1) ((Z4 a0).2.2.2.1) ((Z4 a0).2.2.2.2.1) ((Z4 a0).2.2.2.2.2.1) ((Z4 a0).2.2.2.2.2.2.1)).2.2.2.1) ((Z18 ((Z4 a0).2.1) ((Z4 a0).2.2.2.1) ((Z4 a0).2.2.2.2.1) ((Z4 a0).2.2.2.2.2.1) ((Z4 a0).2.2.2.2.2.2.1)).2.2.2.2))
def Z8c (a0 : List XDeed2) (a1 : XCall) (a2 : List Bool) (i : Nat) (v4 : LK) (v6 : LA) (v7 : LB) (v8 : LC) (v9 : LD) (g : Nat) : St :=
 ⟨Z9 59 [(2, .coll ⟨.bool, a2⟩), (4, .ptr 0 0), (7, .ptr 1 0), (10, .ptr 2 0), (11, .ptr 3 0), (12, .int .i64 (i : Int))], (.cells 49 (cc a1) :: .cells 143 [.ptr 4 0, .vec 5] :: .cells 143 [.ptr 6 0, .vec 7] :: .cells 52 [.int .i64 (((kCo0 a1 a0).1).err), .int .i64 (((kCo0 a1 a0).1).size), .str (((kCo0 a1 a0).1).zone), .int .u64 (((kCo0 a1 a0).1).tag)] :: .cells 102 [.map 8, .map 9, .map 10, .map 11] :: .vec false ⟨.call, v4⟩ :: .cells 102 [.map 12, .map 13, .map 14, .map 15] :: .vec false ⟨.call, (kCo0 a1 a0).2.2.2.2.2⟩ :: oM v6 v7 v8 v9 (oM ((kCo0 a1 a0).2.1) ((kCo0 a1 a0).2.2.1) ((kCo0 a1 a0).2.2.2.1) ((kCo0 a1 a0).2.2.2.2.1) []))⟩
def Z109 (a0 : List XDeed2) (a1 : XCall) (a2 : List Bool) (i : Nat) (v4 : LK) (v6 : LA) (v7 : LB) (v8 : LC) (v9 : LD) (g : Nat) : RT :=
 (.ask (cond (decide ((i : Int) < (a2.length : Int))) (decide ((i : Int) < (10 : Int))) false)
   (.need [0 ≤ (i : Int) ∧ (i : Int) < (a2.length : Int)]
     (.ask (a2.getD i default)
       (.need [CS a1]
         (.leaf .normal ⟨Z9 59 [(2, .coll ⟨.bool, a2⟩), (4, .ptr 0 0), (7, .ptr 1 0), (10, .ptr 2 0), (11, .ptr 3 0), (12, .int .i64 (IntKind.i64.wrap ((i : Int) + (1 : Int))))], (.cells 49 (cc a1) :: .cells 143 [.ptr 4 0, .vec 5] :: .cells 143 [.ptr 6 0, .vec 7] :: .cells 52 [.int .i64 (((kCo0 a1 a0).1).err), .int .i64 (((kCo0 a1 a0).1).size), .str (((kCo0 a1 a0).1).zone), .int .u64 (((kCo0 a1 a0).1).tag)] :: .cells 102 [.map 8, .map 9, .map 10, .map 11] :: .vec false ⟨.call, (Z0 a1 (2 : Int) v4 v6 v7 v8 v9).2.2.2.2.2⟩ :: .cells 102 [.map 12, .map 13, .map 14, .map 15] :: .vec false ⟨.call, (kCo0 a1 a0).2.2.2.2.2⟩ :: oM ((Z0 a1 (2 : Int) v4 v6 v7 v8 v9).2.1) ((Z0 a1 (2 : Int) v4 v6 v7 v8 v9).2.2.1) ((Z0 a1 (2 : Int) v4 v6 v7 v8 v9).2.2.2.1) ((Z0 a1 (2 : Int) v4 v6 v7 v8 v9).2.2.2.2.1) (oM ((kCo0 a1 a0).2.1) ((kCo0 a1 a0).2.2.1) ((kCo0 a1 a0).2.2.2.1) ((kCo0 a1 a0).2.2.2.2.1) []))⟩ [0, 1, 2, 3, 4, 16, 6, 7, 8, 9, 10, 11, 12, 13, 14, 15]))
       (.need [CS a1]
         (.leaf .normal ⟨Z9 59 [(2, .coll ⟨.bool, a2⟩), (4, .ptr 0 0), (7, .ptr 1 0), (10, .ptr 2 0), (11, .ptr 3 0), (12, .int .i64 (IntKind.i64.wrap ((i : Int) + (1 : Int))))], (.cells 49 (cc a1) :: .cells 143 [.ptr 4 0, .vec 5] :: .cells 143 [.ptr 6 0, .vec 7] :: .cells 52 [.int .i64 (((kCo0 a1 a0).1).err), .int .i64 (((kCo0 a1 a0).1).size), .str (((kCo0 a1 a0).1).zone), .int .u64 (((kCo0 a1 a0).1).tag)] :: .cells 102 [.map 8, .map 9, .map 10, .map 11] :: .vec false ⟨.call, (Z0 a1 (3 : Int) v4 v6 v7 v8 v9).2.2.2.2.2⟩ :: .cells 102 [.map 12, .map 13, .map 14, .map 15] :: .vec false ⟨.call, (kCo0 a1 a0).2.2.2.2.2⟩ :: oM ((Z0 a1 (3 : Int) v4 v6 v7 v8 v9).2.1) ((Z0 a1 (3 : Int) v4 v6 v7 v8 v9).2.2.1) ((Z0 a1 (3 : Int) v4 v6 v7 v8 v9).2.2.2.1) ((Z0 a1 (3 : Int) v4 v6 v7 v8 v9).2.2.2.2.1) (oM ((kCo0 a1 a0).2.1) ((kCo0 a1 a0).2.2.1) ((kCo0 a1 a0).2.2.2.1) ((kCo0 a1 a0).2.2.2.2.1) []))⟩ [0, 1, 2, 3, 4, 16, 6, 7, 8, 9, 10, 11, 12, 13, 14, 15]))))
   (.leaf (.exit 0) ⟨Z9 59 [(4, .ptr 0 0), (7, .ptr 1 0), (10, .ptr 2 0), (11, .ptr 3 0)], (.cells 49 (cc a1) :: .cells 143 [.ptr 4 0, .vec 5] :: .cells 143 [.ptr 6 0, .vec 7] :: .cells 52 [.int .i64 (((kCo0 a1 a0).1).err), .int .i64 (((kCo0 a1 a0).1).size), .str (((kCo0 a1 a0).1).zone), .int .u64 (((kCo0 a1 a0).1).tag)] :: .cells 102 [.map 8, .map 9, .map 10, .map 11] :: .vec false ⟨.call, v4⟩ :: .cells 102 [.map 12, .map 13, .map 14, .map 15] :: .vec false ⟨.call, (kCo0 a1 a0).2.2.2.2.2⟩ :: oM v6 v7 v8 v9 (oM ((kCo0 a1 a0).2.1) ((kCo0 a1 a0).2.2.1) ((kCo0 a1 a0).2.2.2.1) ((kCo0 a1 a0).2.2.2.2.1) []))⟩ []))
def Z71 (a0 : List XDeed2) (a1 : XCall) (a2 : List Bool) (i : Nat) (v4 : LK) (v6 : LA) (v7 : LB) (v8 : LC) (v9 : LD) (g : Nat) : Tree :=
 .leaf (.exit 0) ⟨Z9 59 [(4, .ptr 0 0), (7, .ptr 1 0), (10, .ptr 2 0), (11, .ptr 3 0)], (.cells 49 (cc a1) :: .cells 143 [.ptr 4 0, .vec 5] :: .cells 143 [.ptr 6 0, .vec 7] :: .cells 52 [.int .i64 (((kCo0 a1 a0).1).err), .int .i64 (((kCo0 a1 a0).1).size), .str (((kCo0 a1 a0).1).zone), .int .u64 (((kCo0 a1 a0).1).tag)] :: .cells 102 [.map 8, .map 9, .map 10, .map 11] :: .vec false ⟨.call, (Z15 a1 a2 (g + 1) i v4 v6 v7 v8 v9).1⟩ :: .cells 102 [.map 12, .map 13, .map 14, .map 15] :: .vec false ⟨.call, (kCo0 a1 a0).2.2.2.2.2⟩ :: oM ((Z15 a1 a2 (g + 1) i v4 v6 v7 v8 v9).2.1) ((Z15 a1 a2 (g + 1) i v4 v6 v7 v8 v9).2.2.1) ((Z15 a1 a2 (g + 1) i v4 v6 v7 v8 v9).2.2.2.1) ((Z15 a1 a2 (g + 1) i v4 v6 v7 v8 v9).2.2.2.2) (oM ((kCo0 a1 a0).2.1) ((kCo0 a1 a0).2.2.1) ((kCo0 a1 a0).2.2.2.1) ((kCo0 a1 a0).2.2.2.2.1) []))⟩
theorem Z1ca (a0 : List XDeed2) (a1 : XCall) (a2 : List Bool) (hp0 : ∀ x ∈ a0, D2 x) (hp1 : CS a1) (z : { z : Nat × LK × LA × LB × LC × LD × Nat // z.1 + z.2.2.2.2.2.2 = 10 ∧ PC (50 + z.1) z.2.1 z.2.2.1 z.2.2.2.1 z.2.2.2.2.1 z.2.2.2.2.2.1 }) (Q : Exit → St → Prop) (h : (Z71 a0 a1 a2 z.1.1 z.1.2.1 z.1.2.2.1 z.1.2.2.2.1 z.1.2.2.2.2.1 z.1.2.2.2.2.2.1 z.1.2.2.2.2.2.2).All Q) : Tr Try.prog 0 (.loop (Z47 Try.f15 0)) (Z8c a0 a1 a2 z.1.1 z.1.2.1 z.1.2.2.1 z.1.2.2.2.1 z.1.2.2.2.2.1 z.1.2.2.2.2.2.1 z.1.2.2.2.2.2.2) Q := by
 refine Z61 (kok _ _ _ _ _ _) (E := Z1ab) (ι := { z : Nat × LK × LA × LB × LC × LD × Nat // z.1 + z.2.2.2.2.2.2 = 10 ∧ PC (50 + z.1) z.2.1 z.2.2.1 z.2.2.2.1 z.2.2.2.2.1 z.2.2.2.2.2.1 }) 60 0 (fun _ => Z30) (fun z => Z8c a0 a1 a2 z.1.1 z.1.2.1 z.1.2.2.1 z.1.2.2.2.1 z.1.2.2.2.2.1 z.1.2.2.2.2.2.1 z.1.2.2.2.2.2.2) (fun z => Z71 a0 a1 a2 z.1.1 z.1.2.1 z.1.2.2.1 z.1.2.2.2.1 z.1.2.2.2.2.1 z.1.2.2.2.2.2.1 z.1.2.2.2.2.2.2) (fun z => Z109 a0 a1 a2 z.1.1 z.1.2.1 z.1.2.2.1 z.1.2.2.2.1 z.1.2.2.2.2.1 z.1.2.2.2.2.2.1 z.1.2.2.2.2.2.2) (fun z => z.1.2.2.2.2.2.2) (fun _ => Z13.none) (fun z => by obtain ⟨⟨i, v4, v6, v7, v8, v9, g⟩, hi⟩ := z; kernel_rfl) (fun z => by obtain ⟨⟨i, v4, v6, v7, v8, v9, g⟩, hi⟩ := z; kernel_rfl) (fun z => by obtain ⟨⟨i, v4, v6, v7, v8, v9, g⟩, hi⟩ := z; kernel_rfl) ?_ z Q h
 rintro ⟨⟨i, v4, v6, v7, v8, v9, g⟩, hi⟩ Q hT
 replace hT : (Z71 a0 a1 a2 i v4 v6 v7 v8 v9 g).All Q := hT
 replace hi : i + g = 10 ∧ PC (50 + i) v4 v6 v7 v8 v9 := hi
 show (Z109 a0 a1 a2 i v4 v6 v7 v8 v9 g).All _
 unfold Z109
 have hw := Z50 (i := i) (by omega)
 refine ⟨fun h0 => ?_, fun h0 => ?_⟩
 · refine ⟨Z2 (by (try refine fun (_ : _ = _) => ?_); (have hq := Z1e1 h0; constructor <;> omega)) (Z7), ?_⟩
   refine ⟨fun h1 => ?_, fun h1 => ?_⟩
   · refine ⟨Z2 (by (try refine fun (_ : _ = _) => ?_); first | assumption | exact hp1.1) (Z7), ?_⟩
     have h9 := h0
     try simp only [decide_eq_true_eq, decide_eq_false_iff_not] at h9
     have hq := Z1e1 h0
     have hF : Z15 a1 a2 (g + 1) i v4 v6 v7 v8 v9 = Z15 a1 a2 (g) (i + 1) ((Z0 a1 (2 : Int) v4 v6 v7 v8 v9).2.2.2.2.2) ((Z0 a1 (2 : Int) v4 v6 v7 v8 v9).2.1) ((Z0 a1 (2 : Int) v4 v6 v7 v8 v9).2.2.1) ((Z0 a1 (2 : Int) v4 v6 v7 v8 v9).2.2.2.1) ((Z0 a1 (2 : Int) v4 v6 v7 v8 v9).2.2.2.2.1) := by simp only [Z15, h0, h1, cond_true, cond_false]
     refine ⟨⟨((i + 1), (Z0 a1 (2 : Int) v4 v6 v7 v8 v9).2.2.2.2.2, (Z0 a1 (2 : Int) v4 v6 v7 v8 v9).2.1, (Z0 a1 (2 : Int) v4 v6 v7 v8 v9).2.2.1, (Z0 a1 (2 : Int) v4 v6 v7 v8 v9).2.2.2.1, (Z0 a1 (2 : Int) v4 v6 v7 v8 v9).2.2.2.2.1, (g - 1)), by (first | dsimp only | skip); exact ⟨by omega, Z79 hi.2 hp1 (by decide)⟩⟩, by show (g - 1) < g; omega, ?_, ?_⟩
     · show _ = Z8c a0 a1 a2 (i + 1) ((Z0 a1 (2 : Int) v4 v6 v7 v8 v9).2.2.2.2.2) ((Z0 a1 (2 : Int) v4 v6 v7 v8 v9).2.1) ((Z0 a1 (2 : Int) v4 v6 v7 v8 v9).2.2.1) ((Z0 a1 (2 : Int) v4 v6 v7 v8 v9).2.2.2.1) ((Z0 a1 (2 : Int) v4 v6 v7 v8 v9).2.2.2.2.1) (g - 1)
       unfold Z8c
       simp only [hw]
     · show (Z71 a0 a1 a2 (i + 1) ((Z0 a1 (2 : Int) v4 v6 v7 v8 v9).2.2.2.2.2) ((Z0 a1 (2 : Int) v4 v6 v7 v8 v9).2.1) ((Z0 a1 (2 : Int) v4 v6 v7 v8 v9).2.2.1) ((Z0 a1 (2 : Int) v4 v6 v7 v8 v9).2.2.2.1) ((Z0 a1 (2 : Int) v4 v6 v7 v8 v9).2.2.2.2.1) (g - 1)).All Q
       unfold Z71 at hT ⊢
       rw [hF] at hT
       rw [show g = (g - 1) + 1 from by omega] at hT
       exact hT
   · refine ⟨Z2 (by (try refine fun (_ : _ = _) => ?_); first | assumption | exact hp1.1) (Z7), ?_⟩
     have h9 := h0
     try simp only [decide_eq_true_eq, decide_eq_false_iff_not] at h9
     have hq := Z1e1 h0
     have hF : Z15 a1 a2 (g + 1) i v4 v6 v7 v8 v9 = Z15 a1 a2 (g) (i + 1) ((Z0 a1 (3 : Int) v4 v6 v7 v8 v9).2.2.2.2.2) ((Z0 a1 (3 : Int) v4 v6 v7 v8 v9).2.1) ((Z0 a1 (3 : Int) v4 v6 v7 v8 v9).2.2.1) ((Z0 a1 (3 : Int) v4 v6 v7 v8 v9).2.2.2.1) ((Z0 a1 (3 : Int) v4 v6 v7 v8 v9).2.2.2.2.1) := by simp only [Z15, h0, h1, cond_true, cond_false]
     refine ⟨⟨((i + 1), (Z0 a1 (3 : Int) v4 v6 v7 v8 v9).2.2.2.2.2, (Z0 a1 (3 : Int) v4 v6 v7 v8 v9).2.1, (Z0 a1 (3 : Int) v4 v6 v7 v8 v9).2.2.1, (Z0 a1 (3 : Int) v4 v6 v7 v8 v9).2.2.2.1, (Z0 a1 (3 : Int) v4 v6 v7 v8 v9).2.2.2.2.1, (g - 1)), by (first | dsimp only | skip); exact ⟨by omega, Z79 hi.2 hp1 (by decide)⟩⟩, by show (g - 1) < g; omega, ?_, ?_⟩
     · show _ = Z8c a0 a1 a2 (i + 1) ((Z0 a1 (3 : Int) v4 v6 v7 v8 v9).2.2.2.2.2) ((Z0 a1 (3 : Int) v4 v6 v7 v8 v9).2.1) ((Z0 a1 (3 : Int) v4 v6 v7 v8 v9).2.2.1) ((Z0 a1 (3 : Int) v4 v6 v7 v8 v9).2.2.2.1) ((Z0 a1 (3 : Int) v4 v6 v7 v8 v9).2.2.2.2.1) (g - 1)
       unfold Z8c
       simp only [hw]
     · show (Z71 a0 a1 a2 (i + 1) ((Z0 a1 (3 : Int) v4 v6 v7 v8 v9).2.2.2.2.2) ((Z0 a1 (3 : Int) v4 v6 v7 v8 v9).2.1) ((Z0 a1 (3 : Int) v4 v6 v7 v8 v9).2.2.1) ((Z0 a1 (3 : Int) v4 v6 v7 v8 v9).2.2.2.1) ((Z0 a1 (3 : Int) v4 v6 v7 v8 v9).2.2.2.2.1) (g - 1)).All Q
       unfold Z71 at hT ⊢
       rw [hF] at hT
       rw [show g = (g - 1) + 1 from by omega] at hT
       exact hT
 · have hF : Z15 a1 a2 (g + 1) i v4 v6 v7 v8 v9 = (v4, v6, v7, v8, v9) := by simp only [Z15, h0, cond_true, cond_false]
   unfold Z71 at hT
   rw [hF] at hT
   exact hT
theorem onceL_ok {x : XCall} (hx : CS x) (l : List Bool) : ∀ (g i : Nat) (p : LK) (b1 : LA) (b2 : LB) (b3 : LC) (b4 : LD), i + g = 10 → PC (50 + i) p b1 b2 b3 b4 → PC 60 (Z15 x l (g + 1) i p b1 b2 b3 b4).1 (Z15 x l (g + 1) i p b1 b2 b3 b4).2.1 (Z15 x l (g + 1) i p b1 b2 b3 b4).2.2.1 (Z15 x l (g + 1) i p b1 b2 b3 b4).2.2.2.1 (Z15 x l (g + 1) i p b1 b2 b3 b4).2.2.2.2
 | 0, i, p, b1, b2, b3, b4, hi, h => by
  unfold Z15
  have : cond (decide ((i : Int) < (l.length : Int))) (decide ((i : Int) < (10 : Int))) false = false := by
   rw [decide_eq_false (by omega : ¬ (i : Int) < 10)]
   cases decide ((i : Int) < (l.length : Int)) <;> rfl
  rw [this]
  exact h.mono (by omega)
 | g + 1, i, p, b1, b2, b3, b4, hi, h => by
  unfold Z15
  cases hc : cond (decide ((i : Int) < (l.length : Int))) (decide ((i : Int) < (10 : Int))) false with
  | false => exact h.mono (by omega)
  | true =>
   cases l.getD i default with
   | true => exact onceL_ok hx l g (i + 1) _ _ _ _ _ (by omega) (Z79 h hx (by decide))
   | false => exact onceL_ok hx l g (i + 1) _ _ _ _ _ (by omega) (Z79 h hx (by decide))
theorem Z8d {x : XCall} {m : List XDeed2} {l : List Bool} (hm : ∀ x ∈ m, D2 x) (hx : CS x) : PC 60 (Z15 x l (10 + 1) 0 (Z4 m).2.1 (Z4 m).2.2.2.1 (Z4 m).2.2.2.2.1 (Z4 m).2.2.2.2.2.1 (Z4 m).2.2.2.2.2.2.1).1 (Z15 x l (10 + 1) 0 (Z4 m).2.1 (Z4 m).2.2.2.1 (Z4 m).2.2.2.2.1 (Z4 m).2.2.2.2.2.1 (Z4 m).2.2.2.2.2.2.1).2.1 (Z15 x l (10 + 1) 0 (Z4 m).2.1 (Z4 m).2.2.2.1 (Z4 m).2.2.2.2.1 (Z4 m).2.2.2.2.2.1 (Z4 m).2.2.2.2.2.2.1).2.2.1 (Z15 x l (10 + 1) 0 (Z4 m).2.1 (Z4 m).2.2.2.1 (Z4 m).2.2.2.2.1 (Z4 m).2.2.2.2.2.1 (Z4 m).2.2.2.2.2.2.1).2.2.2.1 (Z15 x l (10 + 1) 0 (Z4 m).2.1 (Z4 m).2.2.2.1 (Z4 m).2.2.2.2.1 (Z4 m).2.2.2.2.2.1 (Z4 m).2.2.2.2.2.2.1).2.2.2.2 :=
 onceL_ok hx l 10 0 _ _ _ _ _ rfl (Z80 hm)
abbrev kCo1 (a1 : XCall) (a2 : List Bool) (a0 : List XDeed2) := (Z0 a1 (0 : Int) ((Z15 a1 a2 (10 + 1) 0 ((Z4 a0).2.1) ((Z4 a0).2.2.2.1) ((Z4 a0).2.2.2.2.1) ((Z4 a0).2.2.2.2.2.1) ((Z4 a0).2.2.2.2.2.2.1)).1) ((Z15 a1 a2 (10 + 1) 0 ((Z4 a0).2.1) ((Z4 a0).2.2.2.1) ((Z4 a0).2.2.2.2.1) ((Z4 a0).2.2.2.2.2.1) ((Z4 a0).2.2.2.2.2.2.1)).2.1) ((Z15 a1 a2 (10 + 1) 0 ((Z4 a0).2.1) ((Z4 a0).2.2.2.1) ((Z4 a0).2.2.2.2.1) ((Z4 a0).2.2.2.2.2.1) ((Z4 a0).2.2.2.2.2.2.1)).2.2.1) ((Z15 a1 a2 (10 + 1) 0 ((Z4 a0).2.1) ((Z4 a0).2.2.2.1) ((Z4 a0).2.2.2.2.1) ((Z4 a0).2.2.2.2.2.1) ((Z4 a0).2.2.2.2.2.2.1)).2.2.2.1) ((Z15 a1 a2 (10 + 1) 0 ((Z4 a0).2.1) ((Z4 a0).2.2.2.1) ((Z4 a0).2.2.2.2.1) ((Z4 a0).2.2.2.2.2.1) ((Z4 a0).2.2.2.2.2.2.1)).2.2.2.2))
abbrev kCo2 (a1 : XCall) (a2 : List Bool) (a0 : List XDeed2) := (cond (((((kCo1 a1 a2 a0).1).err) == (((kCo0 a1 a0).1).err)) && (((((kCo1 a1 a2 a0).1).size) == (((kCo0 a1 a0).1).size)) && ((decide ((((kCo1 a1 a2 a0).1).zone) = (((kCo0 a1 a0).1).zone))) && ((((kCo1 a1 a2 a0).1).tag) == (((kCo0 a1 a0).1).tag))))) (Ze5 ((kCo1 a1 a2 a0).2.2.2.2.2) ((kCo0 a1 a0).2.2.2.2.2) ((kCo1 a1 a2 a0).2.1) ((kCo1 a1 a2 a0).2.2.1) ((kCo1 a1 a2 a0).2.2.2.1) ((kCo1 a1 a2 a0).2.2.2.2.1) ((kCo0 a1 a0).2.1) ((kCo0 a1 a0).2.2.1) ((kCo0 a1 a0).2.2.2.1) ((kCo0 a1 a0).2.2.2.2.1)) false)
def Z99 (a0 : List XDeed2) (a1 : XCall) (a2 : List Bool) : Bool :=
 cond (cond (!Zd0) true (!((Z4 a0).1)))
  false
  (kCo2 a1 a2 a0)
def Z1c9 (a0 : List XDeed2) (a1 : XCall) (a2 : List Bool) : RT :=
 (.need [∀ x ∈ a0, D2 x]
   (.ask (cond (!Zd0) true (!((Z4 a0).1)))
     (.leaf .ret ⟨Z9 59 [(6, .bool false)], []⟩ [])
     (.need [((Z4 a0).2.1).length ≤ 1000000]
       (.need [CS a1]
         (.need [CS a1, ((((((kCo1 a1 a2 a0).1).err) == (((kCo0 a1 a0).1).err)) && (((((kCo1 a1 a2 a0).1).size) == (((kCo0 a1 a0).1).size)) && ((decide ((((kCo1 a1 a2 a0).1).zone) = (((kCo0 a1 a0).1).zone))) && ((((kCo1 a1 a2 a0).1).tag) == (((kCo0 a1 a0).1).tag))))) = true) → (VB ((kCo1 a1 a2 a0).2.2.1)), ((((((kCo1 a1 a2 a0).1).err) == (((kCo0 a1 a0).1).err)) && (((((kCo1 a1 a2 a0).1).size) == (((kCo0 a1 a0).1).size)) && ((decide ((((kCo1 a1 a2 a0).1).zone) = (((kCo0 a1 a0).1).zone))) && ((((kCo1 a1 a2 a0).1).tag) == (((kCo0 a1 a0).1).tag))))) = true) → (VB ((kCo0 a1 a0).2.2.1)), ((((((kCo1 a1 a2 a0).1).err) == (((kCo0 a1 a0).1).err)) && (((((kCo1 a1 a2 a0).1).size) == (((kCo0 a1 a0).1).size)) && ((decide ((((kCo1 a1 a2 a0).1).zone) = (((kCo0 a1 a0).1).zone))) && ((((kCo1 a1 a2 a0).1).tag) == (((kCo0 a1 a0).1).tag))))) = true) → (NK ((kCo1 a1 a2 a0).2.2.2.1)), ((((((kCo1 a1 a2 a0).1).err) == (((kCo0 a1 a0).1).err)) && (((((kCo1 a1 a2 a0).1).size) == (((kCo0 a1 a0).1).size)) && ((decide ((((kCo1 a1 a2 a0).1).zone) = (((kCo0 a1 a0).1).zone))) && ((((kCo1 a1 a2 a0).1).tag) == (((kCo0 a1 a0).1).tag))))) = true) → (NK ((kCo0 a1 a0).2.2.2.1)), ((((((kCo1 a1 a2 a0).1).err) == (((kCo0 a1 a0).1).err)) && (((((kCo1 a1 a2 a0).1).size) == (((kCo0 a1 a0).1).size)) && ((decide ((((kCo1 a1 a2 a0).1).zone) = (((kCo0 a1 a0).1).zone))) && ((((kCo1 a1 a2 a0).1).tag) == (((kCo0 a1 a0).1).tag))))) = true) → ((Z4e ((kCo1 a1 a2 a0).2.1) ((kCo1 a1 a2 a0).2.2.1) ((kCo1 a1 a2 a0).2.2.2.1) ((kCo1 a1 a2 a0).2.2.2.2.1)).length ≤ 1000), ((((((kCo1 a1 a2 a0).1).err) == (((kCo0 a1 a0).1).err)) && (((((kCo1 a1 a2 a0).1).size) == (((kCo0 a1 a0).1).size)) && ((decide ((((kCo1 a1 a2 a0).1).zone) = (((kCo0 a1 a0).1).zone))) && ((((kCo1 a1 a2 a0).1).tag) == (((kCo0 a1 a0).1).tag))))) = true) → (∀ v ∈ Z4e ((kCo1 a1 a2 a0).2.1) ((kCo1 a1 a2 a0).2.2.1) ((kCo1 a1 a2 a0).2.2.2.1) ((kCo1 a1 a2 a0).2.2.2.2.1), v.nodes.length ≤ 1000), ((((((kCo1 a1 a2 a0).1).err) == (((kCo0 a1 a0).1).err)) && (((((kCo1 a1 a2 a0).1).size) == (((kCo0 a1 a0).1).size)) && ((decide ((((kCo1 a1 a2 a0).1).zone) = (((kCo0 a1 a0).1).zone))) && ((((kCo1 a1 a2 a0).1).tag) == (((kCo0 a1 a0).1).tag))))) = true) → ((Z89 ((kCo1 a1 a2 a0).2.1) ((kCo1 a1 a2 a0).2.2.1) ((kCo1 a1 a2 a0).2.2.2.1) ((kCo1 a1 a2 a0).2.2.2.2.1)).length ≤ 1000)]
           (.leaf .ret ⟨Z9 59 [(6, .bool (kCo2 a1 a2 a0))], []⟩ []))))))
theorem Z23d (a0 : List XDeed2) (a1 : XCall) (a2 : List Bool) (hp0 : ∀ x ∈ a0, D2 x) (hp1 : CS a1) : Tr Try.prog 0 (Z3b Try.f15) (Z25 Try.f15 [.coll ⟨.deed2, a0⟩, .agg (cc a1), .coll ⟨.bool, a2⟩] []) (Z46 Try.prog Try.f15 (.bool (Z99 a0 a1 a2)) []) := by
 refine Z2f (kok _ _ _ _ _ _) (E := Z1ab) (L := (Z5f [(0, Z8c a0 a1 a2 0 ((Z4 a0).2.1) ((Z4 a0).2.2.2.1) ((Z4 a0).2.2.2.2.1) ((Z4 a0).2.2.2.2.2.1) ((Z4 a0).2.2.2.2.2.2.1) 10, [0, 1, 15, 23, 3, 4, 16, 22, 7, 8, 9, 10, 18, 19, 20, 21], Z71 a0 a1 a2 0 ((Z4 a0).2.1) ((Z4 a0).2.2.2.1) ((Z4 a0).2.2.2.2.1) ((Z4 a0).2.2.2.2.2.1) ((Z4 a0).2.2.2.2.2.2.1) 10)])) 60 9999 (Z13.one (g := Z47 Try.f15 0) (b := 0) (by kernel_rfl) (by kernel_rfl) (by kernel_rfl) (by kernel_rfl) (fun Q h => Z1ca a0 a1 a2 hp0 hp1 ⟨(0, (Z4 a0).2.1, (Z4 a0).2.2.2.1, (Z4 a0).2.2.2.2.1, (Z4 a0).2.2.2.2.2.1, (Z4 a0).2.2.2.2.2.2.1, 10), ⟨rfl, Z80 hp0⟩⟩ Q h)) (Z1c9 a0 a1 a2) (by kernel_rfl) (by kernel_rfl) (by kernel_rfl) ?_
 unfold Z1c9
 refine ⟨Z2 (by (try refine fun (_ : _ = _) => ?_); assumption) (Z7), ?_⟩
 refine ⟨fun h0 => ?_, fun h0 => ?_⟩
 · have hF : Z99 a0 a1 a2 = false := by first | exact (Z11 h0 rfl) | simp only [Z99, h0, cond_true, cond_false]
   exact ⟨trivial, .inl (by (try rw [hF]); kernel_rfl), by (try rw [hF]); kernel_rfl⟩
 · refine ⟨Z2 (by (try refine fun (_ : _ = _) => ?_); (try simp only [kCo0, kCo1, kCo2]); exact PC.len (by (repeat (first | exact Z80 hp0 | exact Z8d hp0 hp1 | exact hp1 | exact hp1.1 | decide | exact hp1.2 | apply Z79 | apply Z72 | apply Z8e))) (by decide)) (Z7), ?_⟩
   refine ⟨Z2 (by (try refine fun (_ : _ = _) => ?_); first | assumption | exact hp1.1) (Z7), ?_⟩
   refine ⟨(by refine Z2 (by (try refine fun (_ : _ = _) => ?_); first | assumption | exact hp1.1) ?_; (iterate 2 refine Z2 (by (try refine fun (_ : _ = _) => ?_); (try simp only [kCo0, kCo1, kCo2]); exact PC.vb (by (repeat (first | exact Z80 hp0 | exact Z8d hp0 hp1 | exact hp1 | exact hp1.1 | decide | exact hp1.2 | apply Z79 | apply Z72 | apply Z8e))) (by decide)) ?_); (iterate 2 refine Z2 (by (try refine fun (_ : _ = _) => ?_); (try simp only [kCo0, kCo1, kCo2]); exact PC.nk (by (repeat (first | exact Z80 hp0 | exact Z8d hp0 hp1 | exact hp1 | exact hp1.1 | decide | exact hp1.2 | apply Z79 | apply Z72 | apply Z8e))) (by decide)) ?_); refine Z2 (by (try refine fun (_ : _ = _) => ?_); (try simp only [kCo0, kCo1, kCo2]); exact PC.vl (by (repeat (first | exact Z80 hp0 | exact Z8d hp0 hp1 | exact hp1 | exact hp1.1 | decide | exact hp1.2 | apply Z79 | apply Z72 | apply Z8e))) (by decide)) ?_; refine Z2 (by (try refine fun (_ : _ = _) => ?_); (try simp only [kCo0, kCo1, kCo2]); exact PC.vn (by (repeat (first | exact Z80 hp0 | exact Z8d hp0 hp1 | exact hp1 | exact hp1.1 | decide | exact hp1.2 | apply Z79 | apply Z72 | apply Z8e))) (by decide)) ?_; refine Z2 (by (try refine fun (_ : _ = _) => ?_); (try simp only [kCo0, kCo1, kCo2]); exact PC.sl (by (repeat (first | exact Z80 hp0 | exact Z8d hp0 hp1 | exact hp1 | exact hp1.1 | decide | exact hp1.2 | apply Z79 | apply Z72 | apply Z8e))) (by decide)) ?_; exact Z7), ?_⟩
   have hF : Z99 a0 a1 a2 = (kCo2 a1 a2 a0) := by first | exact (Z3 h0 rfl) | simp only [Z99, h0, cond_true, cond_false]
   exact ⟨trivial, .inl (by (try rw [hF]); kernel_rfl), by (try rw [hF]); kernel_rfl⟩
end Go.Proofs.Ytpffbkbadnhmmaa
