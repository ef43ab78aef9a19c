/- The driver: calls. -/
import Derived.Test.YtkledlcmhbjadaaGreatDAct
set_option linter.unusedVariables false
set_option linter.unusedSimpArgs false
set_option maxRecDepth 100000
namespace Go.Proofs.YtkledlcmhbjadaaGreat
open Go Go.Eng
noncomputable def E_driver_of : Env := Z65 (P := Tryz.prog) [] [] [] ckf
def Z23 (a0 : Int) (a1 : BA) : XTgt :=
 (⟨cond (a0 == (6 : Int)) true (a0 == (7 : Int)), a1⟩ : XTgt)
def driver_ofR (a0 : Int) (a1 : BA) : RT :=
 (.leaf .ret ⟨Za 13 [(4, .ptr 0 0)], [.cells 97 [.bool (cond (a0 == (6 : Int)) true (a0 == (7 : Int))), .str a1]]⟩ [])
theorem driver_ofF_tr (a0 : Int) (a1 : BA)  : Tr Tryz.prog 0 (Z3c Tryz.f48) (Z27 Tryz.f48 [.int .u8 a0, .str a1] []) (Z48 Tryz.prog Tryz.f48 (.agg [.bool ((Z23 a0 a1).snap), .str ((Z23 a0 a1).name)]) []) := by
 refine Z2f (kok _ _ _ _ _ _) (E := E_driver_of) (L := Z32) 60 9999 Z14.none (driver_ofR a0 a1) (by kernel_rfl) (by kernel_rfl) (by kernel_rfl) ?_
 unfold driver_ofR
 exact ⟨trivial, .inl (by kernel_rfl), by kernel_rfl⟩
noncomputable def driver_of_fact : Fact Tryz.prog := Z4b 48 Tryz.f48 (by kernel_rfl) rfl (by kernel_rfl) [.c (.int .u8), .c (.str)] [] true (fun t u => .agg [.bool ((Z23 t.1 t.2.1).snap), .str ((Z23 t.1 t.2.1).name)]) (fun t u => []) (fun t u => [])
 (fun _ _ _ => rfl) (fun t u => by kernel_rfl) (fun t u => by kernel_rfl) (fun t u h => driver_ofF_tr t.1 t.2.1 )
noncomputable def Z201 : Env := Z65 (P := Tryz.prog) [] [] [] ckf
def Z55 (a0 : Int) : Bool :=
 !(a0 == a0)
def Z128 (a0 : Int) : RT :=
 (.leaf .ret ⟨Za 6 [(2, .bool (!(a0 == a0)))], []⟩ [])
theorem Z19d (a0 : Int)  : Tr Tryz.prog 0 (Z3c Tryz.f65) (Z27 Tryz.f65 [.int .u64 a0] []) (Z48 Tryz.prog Tryz.f65 (.bool (Z55 a0)) []) := by
 refine Z2f (kok _ _ _ _ _ _) (E := Z201) (L := Z32) 60 9999 Z14.none (Z128 a0) (by kernel_rfl) (by kernel_rfl) (by kernel_rfl) ?_
 unfold Z128
 exact ⟨trivial, .inl (by kernel_rfl), by kernel_rfl⟩
noncomputable def Z17a : Fact Tryz.prog := Z4b 65 Tryz.f65 (by kernel_rfl) rfl (by kernel_rfl) [.c (.int .u64)] [] true (fun t u => .bool (Z55 t.1)) (fun t u => []) (fun t u => [])
 (fun _ _ _ => rfl) (fun t u => by kernel_rfl) (fun t u => by kernel_rfl) (fun t u h => Z19d t.1 )
noncomputable def Z1a3 : Env := Z65 (P := Tryz.prog) [Z17a] [] [] ckf
def Z1d (a0 : Int) (a1 : Int) : Int :=
 cond (Z55 a0)
  (cond (Z55 a1)
    (0 : Int)
    (-1 : Int))
  (cond (Z55 a1)
    (1 : Int)
    (cond (decide (a0 < a1))
      (-1 : Int)
      (cond (decide (a0 > a1))
        (1 : Int)
        (0 : Int))))
def Zf6 (a0 : Int) (a1 : Int) : RT :=
 (.ask (Z55 a0)
   (.ask (Z55 a1)
     (.leaf .ret ⟨Za 20 [(4, .int .i64 0)], []⟩ [])
     (.leaf .ret ⟨Za 20 [(4, .int .i64 (-1))], []⟩ []))
   (.ask (Z55 a1)
     (.leaf .ret ⟨Za 20 [(4, .int .i64 1)], []⟩ [])
     (.ask (decide (a0 < a1))
       (.leaf .ret ⟨Za 20 [(4, .int .i64 (-1))], []⟩ [])
       (.ask (decide (a0 > a1))
         (.leaf .ret ⟨Za 20 [(4, .int .i64 1)], []⟩ [])
         (.leaf .ret ⟨Za 20 [(4, .int .i64 0)], []⟩ [])))))
theorem Z150 (a0 : Int) (a1 : Int)  : Tr Tryz.prog 0 (Z3c Tryz.f49) (Z27 Tryz.f49 [.int .u64 a0, .int .u64 a1] []) (Z48 Tryz.prog Tryz.f49 (.int .i64 (Z1d a0 a1)) []) := by
 refine Z2f (kok _ _ _ _ _ _) (E := Z1a3) (L := Z32) 60 9999 Z14.none (Zf6 a0 a1) (by kernel_rfl) (by kernel_rfl) (by kernel_rfl) ?_
 unfold Zf6
 refine ⟨fun h0 => ?_, fun h0 => ?_⟩
 · refine ⟨fun h1 => ?_, fun h1 => ?_⟩
   · have hF : Z1d a0 a1 = (0 : Int) := by first | exact (Z12 h0 (Z12 h1 rfl)) | simp only [Z1d, h0, h1, cond_true, cond_false]
     exact ⟨trivial, .inl (by (try rw [hF]); kernel_rfl), by (try rw [hF]); kernel_rfl⟩
   · have hF : Z1d a0 a1 = (-1 : Int) := by first | exact (Z12 h0 (Z3 h1 rfl)) | simp only [Z1d, h0, h1, cond_true, cond_false]
     exact ⟨trivial, .inl (by (try rw [hF]); kernel_rfl), by (try rw [hF]); kernel_rfl⟩
 · refine ⟨fun h1 => ?_, fun h1 => ?_⟩
   · have hF : Z1d a0 a1 = (1 : Int) := by first | exact (Z3 h0 (Z12 h1 rfl)) | simp only [Z1d, h0, h1, cond_true, cond_false]
     exact ⟨trivial, .inl (by (try rw [hF]); kernel_rfl), by (try rw [hF]); kernel_rfl⟩
   · refine ⟨fun h2 => ?_, fun h2 => ?_⟩
     · have hF : Z1d a0 a1 = (-1 : Int) := by first | exact (Z3 h0 (Z3 h1 (Z12 h2 rfl))) | simp only [Z1d, h0, h1, h2, cond_true, cond_false]
       exact ⟨trivial, .inl (by (try rw [hF]); kernel_rfl), by (try rw [hF]); kernel_rfl⟩
     · refine ⟨fun h3 => ?_, fun h3 => ?_⟩
       · have hF : Z1d a0 a1 = (1 : Int) := by first | exact (Z3 h0 (Z3 h1 (Z3 h2 (Z12 h3 rfl)))) | simp only [Z1d, h0, h1, h2, h3, cond_true, cond_false]
         exact ⟨trivial, .inl (by (try rw [hF]); kernel_rfl), by (try rw [hF]); kernel_rfl⟩
       · have hF : Z1d a0 a1 = (0 : Int) := by first | exact (Z3 h0 (Z3 h1 (Z3 h2 (Z3 h3 rfl)))) | simp only [Z1d, h0, h1, h2, h3, cond_true, cond_false]
         exact ⟨trivial, .inl (by (try rw [hF]); kernel_rfl), by (try rw [hF]); kernel_rfl⟩
noncomputable def Z141 : Fact Tryz.prog := Z4b 49 Tryz.f49 (by kernel_rfl) rfl (by kernel_rfl) [.c (.int .u64), .c (.int .u64)] [] true (fun t u => .int .i64 (Z1d t.1 t.2.1)) (fun t u => []) (fun t u => [])
 (fun _ _ _ => rfl) (fun t u => by kernel_rfl) (fun t u => by kernel_rfl) (fun t u h => Z150 t.1 t.2.1 )
noncomputable def E_dD_Do : Env := Z65 (P := Tryz.prog) [Z124, driver_of_fact, Z141, dD_act_fact] [] [] ckf
def Z1e (a1 : XCall) (b1 : LA) (b2 : LB) (b3 : LC) (b4 : LD) : XRes × LA × LB × LC × LD :=
 cond (!(Z15 a1))
   ((⟨(2 : Int), (0 : Int), (⟨#[]⟩ : BA), (0 : Int)⟩ : XRes), b1, b2, b3, b4)
   (cond (cond (!((mget (k := .tgt) (v := .done) b4 (Z23 a1.verb a1.target)).isSome)) (decide ((b4.length : Int) ≥ (256 : Int))) false)
     ((⟨(7 : Int), (0 : Int), (⟨#[]⟩ : BA), (0 : Int)⟩ : XRes), b1, b2, b3, b4)
     (cond (cond ((mget (k := .tgt) (v := .done) b4 (Z23 a1.verb a1.target)).isSome) (decide ((Z1d a1.num (((mget (k := .tgt) (v := .done) b4 (Z23 a1.verb a1.target)).getD default).c.num)) < (0 : Int))) false)
       ((⟨(9 : Int), (0 : Int), (⟨#[]⟩ : BA), (0 : Int)⟩ : XRes), b1, b2, b3, b4)
       (cond (cond (cond ((mget (k := .tgt) (v := .done) b4 (Z23 a1.verb a1.target)).isSome) ((Z1d a1.num (((mget (k := .tgt) (v := .done) b4 (Z23 a1.verb a1.target)).getD default).c.num)) == (0 : Int)) false) (((((mget (k := .tgt) (v := .done) b4 (Z23 a1.verb a1.target)).getD default).c.verb) == a1.verb) && ((decide ((((mget (k := .tgt) (v := .done) b4 (Z23 a1.verb a1.target)).getD default).c.target) = a1.target)) && (((((mget (k := .tgt) (v := .done) b4 (Z23 a1.verb a1.target)).getD default).c.num) == a1.num) && (((((mget (k := .tgt) (v := .done) b4 (Z23 a1.verb a1.target)).getD default).c.size) == a1.size) && ((decide ((((mget (k := .tgt) (v := .done) b4 (Z23 a1.verb a1.target)).getD default).c.zone) = a1.zone)) && ((decide ((((mget (k := .tgt) (v := .done) b4 (Z23 a1.verb a1.target)).getD default).c.node) = a1.node)) && (decide ((((mget (k := .tgt) (v := .done) b4 (Z23 a1.verb a1.target)).getD default).c.source) = a1.source)))))))) false)
         ((⟨(((mget (k := .tgt) (v := .done) b4 (Z23 a1.verb a1.target)).getD default).r.err), (((mget (k := .tgt) (v := .done) b4 (Z23 a1.verb a1.target)).getD default).r.size), ((mget (k := .tgt) (v := .done) b4 (Z23 a1.verb a1.target)).getD default).r.zone, (((mget (k := .tgt) (v := .done) b4 (Z23 a1.verb a1.target)).getD default).r.tag)⟩ : XRes), b1, b2, b3, b4)
         (cond (cond ((mget (k := .tgt) (v := .done) b4 (Z23 a1.verb a1.target)).isSome) ((Z1d a1.num (((mget (k := .tgt) (v := .done) b4 (Z23 a1.verb a1.target)).getD default).c.num)) == (0 : Int)) false)
           ((⟨(6 : Int), (0 : Int), (⟨#[]⟩ : BA), (0 : Int)⟩ : XRes), b1, b2, b3, b4)
           (cond (!((((Z1b a1 b1 b2 b3 b4).1).err) == (0 : Int)))
             ((⟨(((Z1b a1 b1 b2 b3 b4).1).err), (0 : Int), (⟨#[]⟩ : BA), (0 : Int)⟩ : XRes), (Z1b a1 b1 b2 b3 b4).2.1, (Z1b a1 b1 b2 b3 b4).2.2.1, (Z1b a1 b1 b2 b3 b4).2.2.2, (mset (k := .tgt) (v := .done) b4 (Z23 a1.verb a1.target) (⟨a1, (⟨(((Z1b a1 b1 b2 b3 b4).1).err), (0 : Int), (⟨#[]⟩ : BA), (0 : Int)⟩ : XRes)⟩ : XDone)))
             (((Z1b a1 b1 b2 b3 b4).1), (Z1b a1 b1 b2 b3 b4).2.1, (Z1b a1 b1 b2 b3 b4).2.2.1, (Z1b a1 b1 b2 b3 b4).2.2.2, (mset (k := .tgt) (v := .done) b4 (Z23 a1.verb a1.target) (⟨a1, ((Z1b a1 b1 b2 b3 b4).1)⟩ : XDone))))))))
def dD_DoR (a1 : XCall) (b1 : LA) (b2 : LB) (b3 : LC) (b4 : LD) : RT :=
 (.ask false
   .fail
   (.need [CS a1]
     (.ask (!(Z15 a1))
       (.leaf .ret ⟨Za 95 [(4, .ptr 5 0)], (.cells 87 [.map 1, .map 2, .map 3, .map 4] :: oM b1 b2 b3 b4 [.cells 52 [.int .i64 2, .int .i64 0, .str (⟨#[]⟩ : BA), .int .u64 0]])⟩ [0, 1, 2, 3, 4, 6])
       (.ask (cond (!((mget (k := .tgt) (v := .done) b4 (Z23 a1.verb a1.target)).isSome)) (decide ((b4.length : Int) ≥ (256 : Int))) false)
         (.leaf .ret ⟨Za 95 [(4, .ptr 5 0)], (.cells 87 [.map 1, .map 2, .map 3, .map 4] :: oM b1 b2 b3 b4 [.cells 52 [.int .i64 7, .int .i64 0, .str (⟨#[]⟩ : BA), .int .u64 0]])⟩ [0, 1, 2, 3, 4, 6])
         (.ask (cond ((mget (k := .tgt) (v := .done) b4 (Z23 a1.verb a1.target)).isSome) (decide ((Z1d a1.num (((mget (k := .tgt) (v := .done) b4 (Z23 a1.verb a1.target)).getD default).c.num)) < (0 : Int))) false)
           (.leaf .ret ⟨Za 95 [(4, .ptr 5 0)], (.cells 87 [.map 1, .map 2, .map 3, .map 4] :: oM b1 b2 b3 b4 [.cells 52 [.int .i64 9, .int .i64 0, .str (⟨#[]⟩ : BA), .int .u64 0]])⟩ [0, 1, 2, 3, 4, 6])
           (.ask (cond (cond ((mget (k := .tgt) (v := .done) b4 (Z23 a1.verb a1.target)).isSome) ((Z1d a1.num (((mget (k := .tgt) (v := .done) b4 (Z23 a1.verb a1.target)).getD default).c.num)) == (0 : Int)) false) (((((mget (k := .tgt) (v := .done) b4 (Z23 a1.verb a1.target)).getD default).c.verb) == a1.verb) && ((decide ((((mget (k := .tgt) (v := .done) b4 (Z23 a1.verb a1.target)).getD default).c.target) = a1.target)) && (((((mget (k := .tgt) (v := .done) b4 (Z23 a1.verb a1.target)).getD default).c.num) == a1.num) && (((((mget (k := .tgt) (v := .done) b4 (Z23 a1.verb a1.target)).getD default).c.size) == a1.size) && ((decide ((((mget (k := .tgt) (v := .done) b4 (Z23 a1.verb a1.target)).getD default).c.zone) = a1.zone)) && ((decide ((((mget (k := .tgt) (v := .done) b4 (Z23 a1.verb a1.target)).getD default).c.node) = a1.node)) && (decide ((((mget (k := .tgt) (v := .done) b4 (Z23 a1.verb a1.target)).getD default).c.source) = a1.source)))))))) false)
             (.leaf .ret ⟨Za 95 [(4, .ptr 5 0)], (.cells 87 [.map 1, .map 2, .map 3, .map 4] :: oM b1 b2 b3 b4 [.cells 52 [.int .i64 (((mget (k := .tgt) (v := .done) b4 (Z23 a1.verb a1.target)).getD default).r.err), .int .i64 (((mget (k := .tgt) (v := .done) b4 (Z23 a1.verb a1.target)).getD default).r.size), .str (((mget (k := .tgt) (v := .done) b4 (Z23 a1.verb a1.target)).getD default).r.zone), .int .u64 (((mget (k := .tgt) (v := .done) b4 (Z23 a1.verb a1.target)).getD default).r.tag)]])⟩ [0, 1, 2, 3, 4, 6])
             (.ask (cond ((mget (k := .tgt) (v := .done) b4 (Z23 a1.verb a1.target)).isSome) ((Z1d a1.num (((mget (k := .tgt) (v := .done) b4 (Z23 a1.verb a1.target)).getD default).c.num)) == (0 : Int)) false)
               (.leaf .ret ⟨Za 95 [(4, .ptr 5 0)], (.cells 87 [.map 1, .map 2, .map 3, .map 4] :: oM b1 b2 b3 b4 [.cells 52 [.int .i64 6, .int .i64 0, .str (⟨#[]⟩ : BA), .int .u64 0]])⟩ [0, 1, 2, 3, 4, 6])
               (.ask (!((((Z1b a1 b1 b2 b3 b4).1).err) == (0 : Int)))
                 (.leaf .ret ⟨Za 95 [(4, .ptr 5 0)], (.cells 87 [.map 1, .map 2, .map 3, .map 4] :: oM ((Z1b a1 b1 b2 b3 b4).2.1) ((Z1b a1 b1 b2 b3 b4).2.2.1) ((Z1b a1 b1 b2 b3 b4).2.2.2) (mset (k := .tgt) (v := .done) b4 (Z23 a1.verb a1.target) (⟨a1, (⟨(((Z1b a1 b1 b2 b3 b4).1).err), (0 : Int), (⟨#[]⟩ : BA), (0 : Int)⟩ : XRes)⟩ : XDone)) [.cells 52 [.int .i64 (((Z1b a1 b1 b2 b3 b4).1).err), .int .i64 0, .str (⟨#[]⟩ : BA), .int .u64 0]])⟩ [0, 1, 2, 3, 4, 6])
                 (.leaf .ret ⟨Za 95 [(4, .ptr 5 0)], (.cells 87 [.map 1, .map 2, .map 3, .map 4] :: oM ((Z1b a1 b1 b2 b3 b4).2.1) ((Z1b a1 b1 b2 b3 b4).2.2.1) ((Z1b a1 b1 b2 b3 b4).2.2.2) (mset (k := .tgt) (v := .done) b4 (Z23 a1.verb a1.target) (⟨a1, ((Z1b a1 b1 b2 b3 b4).1)⟩ : XDone)) [.cells 52 [.int .i64 (((Z1b a1 b1 b2 b3 b4).1).err), .int .i64 (((Z1b a1 b1 b2 b3 b4).1).size), .str (((Z1b a1 b1 b2 b3 b4).1).zone), .int .u64 (((Z1b a1 b1 b2 b3 b4).1).tag)]])⟩ [0, 1, 2, 3, 4, 6])))))))))
theorem dD_DoF_tr (a1 : XCall) (b1 : LA) (b2 : LB) (b3 : LC) (b4 : LD) (hp0 : CS a1) : Tr Tryz.prog 5 (Z3c Tryz.f23) (Z27 Tryz.f23 [.ptr 0 0, .agg (cc a1)] (.cells 87 [.map 1, .map 2, .map 3, .map 4] :: oM b1 b2 b3 b4 [])) (Z48 Tryz.prog Tryz.f23 (.agg [.int .i64 (((Z1e a1 b1 b2 b3 b4).1).err), .int .i64 (((Z1e a1 b1 b2 b3 b4).1).size), .str (((Z1e a1 b1 b2 b3 b4).1).zone), .int .u64 (((Z1e a1 b1 b2 b3 b4).1).tag)]) (.cells 87 [.map 1, .map 2, .map 3, .map 4] :: oM ((Z1e a1 b1 b2 b3 b4).2.1) ((Z1e a1 b1 b2 b3 b4).2.2.1) ((Z1e a1 b1 b2 b3 b4).2.2.2.1) ((Z1e a1 b1 b2 b3 b4).2.2.2.2) [])) := by
 refine Z2f (kok _ _ _ _ _ _) (E := E_dD_Do) (L := Z32) 60 9999 Z14.none (dD_DoR a1 b1 b2 b3 b4) (by kernel_rfl) (by kernel_rfl) (by kernel_rfl) ?_
 unfold dD_DoR
 refine ⟨fun h0 => ?_, fun h0 => ?_⟩
 · exact absurd h0 (by simp)
 · refine ⟨Z2 (by first | assumption | omega | ((try intro _); (try simp only [decide_eq_true_eq, decide_eq_false_iff_not, Bool.cond_false_right, Bool.cond_true_right, Bool.cond_true_left, Bool.cond_false_left, Bool.and_eq_true, Bool.or_eq_true, Bool.not_eq_true', Z18, maxLen, List.length_cons, List.length_nil, List.length_append, Z44] at *); omega)) (Z9), ?_⟩
   refine ⟨fun h1 => ?_, fun h1 => ?_⟩
   · have hF : Z1e a1 b1 b2 b3 b4 = ((⟨(2 : Int), (0 : Int), (⟨#[]⟩ : BA), (0 : Int)⟩ : XRes), b1, b2, b3, b4) := by first | exact (Z12 h1 rfl) | simp only [Z1e, h0, h1, cond_true, cond_false]
     exact ⟨trivial, .inl (by (try rw [hF]); kernel_rfl), by (try rw [hF]); kernel_rfl⟩
   · refine ⟨fun h2 => ?_, fun h2 => ?_⟩
     · have hF : Z1e a1 b1 b2 b3 b4 = ((⟨(7 : Int), (0 : Int), (⟨#[]⟩ : BA), (0 : Int)⟩ : XRes), b1, b2, b3, b4) := by first | exact (Z3 h1 (Z12 h2 rfl)) | simp only [Z1e, h0, h1, h2, cond_true, cond_false]
       exact ⟨trivial, .inl (by (try rw [hF]); kernel_rfl), by (try rw [hF]); kernel_rfl⟩
     · refine ⟨fun h3 => ?_, fun h3 => ?_⟩
       · have hF : Z1e a1 b1 b2 b3 b4 = ((⟨(9 : Int), (0 : Int), (⟨#[]⟩ : BA), (0 : Int)⟩ : XRes), b1, b2, b3, b4) := by first | exact (Z3 h1 (Z3 h2 (Z12 h3 rfl))) | simp only [Z1e, h0, h1, h2, h3, cond_true, cond_false]
         exact ⟨trivial, .inl (by (try rw [hF]); kernel_rfl), by (try rw [hF]); kernel_rfl⟩
       · refine ⟨fun h4 => ?_, fun h4 => ?_⟩
         · have hF : Z1e a1 b1 b2 b3 b4 = ((⟨(((mget (k := .tgt) (v := .done) b4 (Z23 a1.verb a1.target)).getD default).r.err), (((mget (k := .tgt) (v := .done) b4 (Z23 a1.verb a1.target)).getD default).r.size), ((mget (k := .tgt) (v := .done) b4 (Z23 a1.verb a1.target)).getD default).r.zone, (((mget (k := .tgt) (v := .done) b4 (Z23 a1.verb a1.target)).getD default).r.tag)⟩ : XRes), b1, b2, b3, b4) := by first | exact (Z3 h1 (Z3 h2 (Z3 h3 (Z12 h4 rfl)))) | simp only [Z1e, h0, h1, h2, h3, h4, cond_true, cond_false]
           exact ⟨trivial, .inl (by (try rw [hF]); kernel_rfl), by (try rw [hF]); kernel_rfl⟩
         · refine ⟨fun h5 => ?_, fun h5 => ?_⟩
           · have hF : Z1e a1 b1 b2 b3 b4 = ((⟨(6 : Int), (0 : Int), (⟨#[]⟩ : BA), (0 : Int)⟩ : XRes), b1, b2, b3, b4) := by first | exact (Z3 h1 (Z3 h2 (Z3 h3 (Z3 h4 (Z12 h5 rfl))))) | simp only [Z1e, h0, h1, h2, h3, h4, h5, cond_true, cond_false]
             exact ⟨trivial, .inl (by (try rw [hF]); kernel_rfl), by (try rw [hF]); kernel_rfl⟩
           · refine ⟨fun h6 => ?_, fun h6 => ?_⟩
             · have hF : Z1e a1 b1 b2 b3 b4 = ((⟨(((Z1b a1 b1 b2 b3 b4).1).err), (0 : Int), (⟨#[]⟩ : BA), (0 : Int)⟩ : XRes), (Z1b a1 b1 b2 b3 b4).2.1, (Z1b a1 b1 b2 b3 b4).2.2.1, (Z1b a1 b1 b2 b3 b4).2.2.2, (mset (k := .tgt) (v := .done) b4 (Z23 a1.verb a1.target) (⟨a1, (⟨(((Z1b a1 b1 b2 b3 b4).1).err), (0 : Int), (⟨#[]⟩ : BA), (0 : Int)⟩ : XRes)⟩ : XDone))) := by first | exact (Z3 h1 (Z3 h2 (Z3 h3 (Z3 h4 (Z3 h5 (Z12 h6 rfl)))))) | simp only [Z1e, h0, h1, h2, h3, h4, h5, h6, cond_true, cond_false]
               exact ⟨trivial, .inl (by (try rw [hF]); kernel_rfl), by (try rw [hF]); kernel_rfl⟩
             · have hF : Z1e a1 b1 b2 b3 b4 = (((Z1b a1 b1 b2 b3 b4).1), (Z1b a1 b1 b2 b3 b4).2.1, (Z1b a1 b1 b2 b3 b4).2.2.1, (Z1b a1 b1 b2 b3 b4).2.2.2, (mset (k := .tgt) (v := .done) b4 (Z23 a1.verb a1.target) (⟨a1, ((Z1b a1 b1 b2 b3 b4).1)⟩ : XDone))) := by first | exact (Z3 h1 (Z3 h2 (Z3 h3 (Z3 h4 (Z3 h5 (Z3 h6 rfl)))))) | simp only [Z1e, h0, h1, h2, h3, h4, h5, h6, cond_true, cond_false]
               exact ⟨trivial, .inl (by (try rw [hF]); kernel_rfl), by (try rw [hF]); kernel_rfl⟩
noncomputable def dD_Do_fact0 : Fact Tryz.prog := Z4b 23 Tryz.f23 (by kernel_rfl) rfl (by kernel_rfl) [.c (.ptr 0 0), .st .call] [.cells 87 [.map 1, .map 2, .map 3, .map 4], .map .str (.int .i64), .vols, .map .str .sn, .map .tgt .done] false (fun t u => .agg [.int .i64 (((Z1e t.2.1 u.2.1 u.2.2.1 u.2.2.2.1 u.2.2.2.2.1).1).err), .int .i64 (((Z1e t.2.1 u.2.1 u.2.2.1 u.2.2.2.1 u.2.2.2.2.1).1).size), .str (((Z1e t.2.1 u.2.1 u.2.2.1 u.2.2.2.1 u.2.2.2.2.1).1).zone), .int .u64 (((Z1e t.2.1 u.2.1 u.2.2.1 u.2.2.2.1 u.2.2.2.2.1).1).tag)]) (fun t u => (.cells 87 [.map 1, .map 2, .map 3, .map 4] :: oM ((Z1e t.2.1 u.2.1 u.2.2.1 u.2.2.2.1 u.2.2.2.2.1).2.1) ((Z1e t.2.1 u.2.1 u.2.2.1 u.2.2.2.1 u.2.2.2.2.1).2.2.1) ((Z1e t.2.1 u.2.1 u.2.2.1 u.2.2.2.1 u.2.2.2.2.1).2.2.2.1) ((Z1e t.2.1 u.2.1 u.2.2.1 u.2.2.2.1 u.2.2.2.2.1).2.2.2.2) [])) (fun t u => [CS t.2.1])
 (nofun) (fun t u => by kernel_rfl) (fun t u => by kernel_rfl) (fun t u h => dD_DoF_tr t.2.1 u.2.1 u.2.2.1 u.2.2.2.1 u.2.2.2.2.1 (h _ mS))
noncomputable def dD_Do_fact : Fact Tryz.prog := Z8c dD_Do_fact0 [.c (.ptr 0 0), .st .call] [.cells 87 [.map 1, .map 2, .map 3, .map 4], .map .str (.int .i64), .vols, .map .str .sn, .map .tgt .done] (fun t u => .agg [.int .i64 (((Z1e t.2.1 u.2.1 u.2.2.1 u.2.2.2.1 u.2.2.2.2.1).1).err), .int .i64 (((Z1e t.2.1 u.2.1 u.2.2.1 u.2.2.2.1 u.2.2.2.2.1).1).size), .str (((Z1e t.2.1 u.2.1 u.2.2.1 u.2.2.2.1 u.2.2.2.2.1).1).zone), .int .u64 (((Z1e t.2.1 u.2.1 u.2.2.1 u.2.2.2.1 u.2.2.2.2.1).1).tag)]) (fun t u => (.cells 87 [.map 1, .map 2, .map 3, .map 4] :: oM ((Z1e t.2.1 u.2.1 u.2.2.1 u.2.2.2.1 u.2.2.2.2.1).2.1) ((Z1e t.2.1 u.2.1 u.2.2.1 u.2.2.2.1 u.2.2.2.2.1).2.2.1) ((Z1e t.2.1 u.2.1 u.2.2.1 u.2.2.2.1 u.2.2.2.2.1).2.2.2.1) ((Z1e t.2.1 u.2.1 u.2.2.1 u.2.2.2.1 u.2.2.2.2.1).2.2.2.2) [])) (fun t u => [CS t.2.1]) rfl [0] (by
 intro t u k hk
 obtain rfl := List.mem_singleton.1 hk
 all_goals exact ⟨by decide, rfl⟩)
noncomputable def E_dD_Put : Env := Z65 (P := Tryz.prog) [] [] [] ckf
def Z8f (a1 : BA) (a2 : BA) (a3 : Int) (b1 : LA) (b2 : LB) (b3 : LC) (b4 : LD) : Int × LB :=
 cond (!((vget b2 a1).isSome))
   ((5 : Int), b2)
   (cond (!(((vget b2 a1).bind fun v => mget (k := .str) (v := .bool) v.nodes a2).getD false))
     ((10 : Int), b2)
     ((0 : Int), (vset b2 a1 ⟨(((vget b2 a1).getD default).size), ((vget b2 a1).getD default).zone, a3, ((vget b2 a1).getD default).nodes⟩)))
def dD_PutR (a1 : BA) (a2 : BA) (a3 : Int) (b1 : LA) (b2 : LB) (b3 : LC) (b4 : LD) : RT :=
 (.ask false
   .fail
   (.ask (!((vget b2 a1).isSome))
     (.leaf .ret ⟨Za 39 [(8, .int .i64 5)], (.cells 87 [.map 1, .map 2, .map 3, .map 4] :: oM b1 b2 b3 b4 [])⟩ [])
     (.need [(vget b2 a1).isSome = (vget b2 a1).isSome]
       (.ask (!(((vget b2 a1).bind fun v => mget (k := .str) (v := .bool) v.nodes a2).getD false))
         (.leaf .ret ⟨Za 39 [(8, .int .i64 10)], (.cells 87 [.map 1, .map 2, .map 3, .map 4] :: oM b1 b2 b3 b4 [])⟩ [])
         (.need [a1 = a1 ∧ (vget b2 a1).isSome = true ∧ (vget b2 a1).isSome = true]
           (.leaf .ret ⟨Za 39 [(8, .int .i64 0)], (.cells 87 [.map 1, .map 2, .map 3, .map 4] :: oM b1 (vset b2 a1 ⟨(((vget b2 a1).getD default).size), ((vget b2 a1).getD default).zone, a3, ((vget b2 a1).getD default).nodes⟩) b3 b4 [])⟩ []))))))
theorem dD_PutF_tr (a1 : BA) (a2 : BA) (a3 : Int) (b1 : LA) (b2 : LB) (b3 : LC) (b4 : LD)  : Tr Tryz.prog 5 (Z3c Tryz.f56) (Z27 Tryz.f56 [.ptr 0 0, .str a1, .str a2, .int .u64 a3] (.cells 87 [.map 1, .map 2, .map 3, .map 4] :: oM b1 b2 b3 b4 [])) (Z48 Tryz.prog Tryz.f56 (.int .i64 ((Z8f a1 a2 a3 b1 b2 b3 b4).1)) (.cells 87 [.map 1, .map 2, .map 3, .map 4] :: oM b1 ((Z8f a1 a2 a3 b1 b2 b3 b4).2) b3 b4 [])) := by
 refine Z2f (kok _ _ _ _ _ _) (E := E_dD_Put) (L := Z32) 60 9999 Z14.none (dD_PutR a1 a2 a3 b1 b2 b3 b4) (by kernel_rfl) (by kernel_rfl) (by kernel_rfl) ?_
 unfold dD_PutR
 refine ⟨fun h0 => ?_, fun h0 => ?_⟩
 · exact absurd h0 (by simp)
 · refine ⟨fun h1 => ?_, fun h1 => ?_⟩
   · have hF : Z8f a1 a2 a3 b1 b2 b3 b4 = ((5 : Int), b2) := by first | exact (Z12 h1 rfl) | simp only [Z8f, h0, h1, cond_true, cond_false]
     exact ⟨trivial, .inl (by (try rw [hF]); kernel_rfl), by (try rw [hF]); kernel_rfl⟩
   · refine ⟨Z2 (by first | rfl | exact ⟨rfl, h0, h0⟩ | exact ⟨rfl, h1, h1⟩ | exact ⟨h0, h0⟩ | exact ⟨h1, h1⟩ | (simp_all; done)) (Z9), ?_⟩
     refine ⟨fun h2 => ?_, fun h2 => ?_⟩
     · have hF : Z8f a1 a2 a3 b1 b2 b3 b4 = ((10 : Int), b2) := by first | exact (Z3 h1 (Z12 h2 rfl)) | simp only [Z8f, h0, h1, h2, cond_true, cond_false]
       exact ⟨trivial, .inl (by (try rw [hF]); kernel_rfl), by (try rw [hF]); kernel_rfl⟩
     · refine ⟨Z2 (by first | rfl | exact ⟨rfl, h0, h0⟩ | exact ⟨rfl, h1, h1⟩ | exact ⟨h0, h0⟩ | exact ⟨h1, h1⟩ | (simp_all; done)) (Z9), ?_⟩
       have hF : Z8f a1 a2 a3 b1 b2 b3 b4 = ((0 : Int), (vset b2 a1 ⟨(((vget b2 a1).getD default).size), ((vget b2 a1).getD default).zone, a3, ((vget b2 a1).getD default).nodes⟩)) := by first | exact (Z3 h1 (Z3 h2 rfl)) | simp only [Z8f, h0, h1, h2, cond_true, cond_false]
       exact ⟨trivial, .inl (by (try rw [hF]); kernel_rfl), by (try rw [hF]); kernel_rfl⟩
noncomputable def dD_Put_fact0 : Fact Tryz.prog := Z4b 56 Tryz.f56 (by kernel_rfl) rfl (by kernel_rfl) [.c (.ptr 0 0), .c (.str), .c (.str), .c (.int .u64)] [.cells 87 [.map 1, .map 2, .map 3, .map 4], .map .str (.int .i64), .vols, .map .str .sn, .map .tgt .done] false (fun t u => .int .i64 ((Z8f t.2.1 t.2.2.1 t.2.2.2.1 u.2.1 u.2.2.1 u.2.2.2.1 u.2.2.2.2.1).1)) (fun t u => (.cells 87 [.map 1, .map 2, .map 3, .map 4] :: oM (u.2.1) ((Z8f t.2.1 t.2.2.1 t.2.2.2.1 u.2.1 u.2.2.1 u.2.2.2.1 u.2.2.2.2.1).2) (u.2.2.2.1) (u.2.2.2.2.1) [])) (fun t u => [])
 (nofun) (fun t u => by kernel_rfl) (fun t u => by kernel_rfl) (fun t u h => dD_PutF_tr t.2.1 t.2.2.1 t.2.2.2.1 u.2.1 u.2.2.1 u.2.2.2.1 u.2.2.2.2.1 )
noncomputable def dD_Put_fact : Fact Tryz.prog := Z8c dD_Put_fact0 [.c (.ptr 0 0), .c (.str), .c (.str), .c (.int .u64)] [.cells 87 [.map 1, .map 2, .map 3, .map 4], .map .str (.int .i64), .vols, .map .str .sn, .map .tgt .done] (fun t u => .int .i64 ((Z8f t.2.1 t.2.2.1 t.2.2.2.1 u.2.1 u.2.2.1 u.2.2.2.1 u.2.2.2.2.1).1)) (fun t u => (.cells 87 [.map 1, .map 2, .map 3, .map 4] :: oM (u.2.1) ((Z8f t.2.1 t.2.2.1 t.2.2.2.1 u.2.1 u.2.2.1 u.2.2.2.1 u.2.2.2.2.1).2) (u.2.2.2.1) (u.2.2.2.2.1) [])) (fun t u => []) rfl [0, 1, 3, 4] (by
 intro t u k hk
 simp only [List.mem_cons, List.not_mem_nil, or_false] at hk
 rcases hk with rfl | rfl | rfl | rfl
 all_goals exact ⟨by decide, rfl⟩)
noncomputable def E_dD_Room : Env := Z65 (P := Tryz.prog) [] [] [] ckf
def Zd3 (a1 : BA) (b1 : LA) (b2 : LB) (b3 : LC) (b4 : LD) : Int × Bool :=
 (((mget (k := .str) (v := (.int .i64)) b1 a1).getD default), (mget (k := .str) (v := (.int .i64)) b1 a1).isSome)
def dD_RoomR (a1 : BA) (b1 : LA) (b2 : LB) (b3 : LC) (b4 : LD) : RT :=
 (.ask false
   .fail
   (.leaf .ret ⟨Za 21 [(4, .int .i64 ((mget (k := .str) (v := (.int .i64)) b1 a1).getD default)), (5, .bool ((mget (k := .str) (v := (.int .i64)) b1 a1).isSome))], (.cells 87 [.map 1, .map 2, .map 3, .map 4] :: oM b1 b2 b3 b4 [])⟩ []))
theorem dD_RoomF_tr (a1 : BA) (b1 : LA) (b2 : LB) (b3 : LC) (b4 : LD)  : Tr Tryz.prog 5 (Z3c Tryz.f51) (Z27 Tryz.f51 [.ptr 0 0, .str a1] (.cells 87 [.map 1, .map 2, .map 3, .map 4] :: oM b1 b2 b3 b4 [])) (Z48 Tryz.prog Tryz.f51 (.tup [.int .i64 ((Zd3 a1 b1 b2 b3 b4).1), .bool ((Zd3 a1 b1 b2 b3 b4).2)]) (.cells 87 [.map 1, .map 2, .map 3, .map 4] :: oM b1 b2 b3 b4 [])) := by
 refine Z2f (kok _ _ _ _ _ _) (E := E_dD_Room) (L := Z32) 60 9999 Z14.none (dD_RoomR a1 b1 b2 b3 b4) (by kernel_rfl) (by kernel_rfl) (by kernel_rfl) ?_
 unfold dD_RoomR
 refine ⟨fun h0 => ?_, fun h0 => ?_⟩
 · exact absurd h0 (by simp)
 · have hF : Zd3 a1 b1 b2 b3 b4 = (((mget (k := .str) (v := (.int .i64)) b1 a1).getD default), (mget (k := .str) (v := (.int .i64)) b1 a1).isSome) := by first | exact rfl | simp only [Zd3, h0, cond_true, cond_false]
   exact ⟨trivial, .inl (by (try rw [hF]); kernel_rfl), by (try rw [hF]); kernel_rfl⟩
noncomputable def dD_Room_fact : Fact Tryz.prog := Z4b 51 Tryz.f51 (by kernel_rfl) rfl (by kernel_rfl) [.c (.ptr 0 0), .c (.str)] [.cells 87 [.map 1, .map 2, .map 3, .map 4], .map .str (.int .i64), .vols, .map .str .sn, .map .tgt .done] true (fun t u => .tup [.int .i64 ((Zd3 t.2.1 u.2.1 u.2.2.1 u.2.2.2.1 u.2.2.2.2.1).1), .bool ((Zd3 t.2.1 u.2.1 u.2.2.1 u.2.2.2.1 u.2.2.2.2.1).2)]) (fun t u => HPL.enc _ u) (fun t u => [])
 (fun _ _ _ => rfl) (fun t u => by kernel_rfl) (fun t u => by kernel_rfl) (fun t u h => dD_RoomF_tr t.2.1 u.2.1 u.2.2.1 u.2.2.2.1 u.2.2.2.2.1 )
end Go.Proofs.YtkledlcmhbjadaaGreat
