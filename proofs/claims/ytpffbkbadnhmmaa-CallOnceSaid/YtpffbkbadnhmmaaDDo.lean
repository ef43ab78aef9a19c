/- The driver: calls. -/
import Derived.Test.YtpffbkbadnhmmaaDAct
set_option linter.unusedVariables false
set_option linter.unusedSimpArgs false
set_option maxRecDepth 100000
namespace Go.Proofs.Ytpffbkbadnhmmaa
open Go Go.Eng
noncomputable def E_driver_of : Env := Z62 (P := Try.prog) [] [] [] ckf
def Z40 (a0 : Int) (a1 : BA) : XTgt :=
 (⟨cond (a0 == (6 : Int)) true (a0 == (7 : Int)), a1⟩ : XTgt)
def driver_ofR (a0 : Int) (a1 : BA) : RT :=
 (.leaf .ret ⟨Z9 13 [(4, .ptr 0 0)], [.cells 122 [.bool (cond (a0 == (6 : Int)) true (a0 == (7 : Int))), .str a1]]⟩ [])
theorem driver_ofF_tr (a0 : Int) (a1 : BA)  : Tr Try.prog 0 (Z3b Try.f57) (Z25 Try.f57 [.int .u8 a0, .str a1] []) (Z46 Try.prog Try.f57 (.agg [.bool ((Z40 a0 a1).snap), .str ((Z40 a0 a1).name)]) []) := by
 refine Z2f (kok _ _ _ _ _ _) (E := E_driver_of) (L := Z30) 60 9999 Z13.none (driver_ofR a0 a1) (by kernel_rfl) (by kernel_rfl) (by kernel_rfl) ?_
 unfold driver_ofR
 exact ⟨trivial, .inl (by kernel_rfl), by kernel_rfl⟩
noncomputable def driver_of_fact : Fact Try.prog := Z4f 57 Try.f57 (by kernel_rfl) rfl (by kernel_rfl) [.c (.int .u8), .c (.str)] [] true (fun t u => .agg [.bool ((Z40 t.1 t.2.1).snap), .str ((Z40 t.1 t.2.1).name)]) (fun t u => []) (fun t u => [])
 (fun _ _ _ => rfl) (fun t u => by kernel_rfl) (fun t u => by kernel_rfl) (fun t u h => driver_ofF_tr t.1 t.2.1 )
noncomputable def Z1f9 : Env := Z62 (P := Try.prog) [] [] [] ckf
def Z54 (a0 : Int) : Bool :=
 !(a0 == a0)
def Z11f (a0 : Int) : RT :=
 (.leaf .ret ⟨Z9 6 [(2, .bool (!(a0 == a0)))], []⟩ [])
theorem Z194 (a0 : Int)  : Tr Try.prog 0 (Z3b Try.f89) (Z25 Try.f89 [.int .u64 a0] []) (Z46 Try.prog Try.f89 (.bool (Z54 a0)) []) := by
 refine Z2f (kok _ _ _ _ _ _) (E := Z1f9) (L := Z30) 60 9999 Z13.none (Z11f a0) (by kernel_rfl) (by kernel_rfl) (by kernel_rfl) ?_
 unfold Z11f
 exact ⟨trivial, .inl (by kernel_rfl), by kernel_rfl⟩
noncomputable def Z172 : Fact Try.prog := Z4f 89 Try.f89 (by kernel_rfl) rfl (by kernel_rfl) [.c (.int .u64)] [] true (fun t u => .bool (Z54 t.1)) (fun t u => []) (fun t u => [])
 (fun _ _ _ => rfl) (fun t u => by kernel_rfl) (fun t u => by kernel_rfl) (fun t u h => Z194 t.1 )
noncomputable def Z19a : Env := Z62 (P := Try.prog) [Z172] [] [] ckf
def Z19 (a0 : Int) (a1 : Int) : Int :=
 cond (Z54 a0)
  (cond (Z54 a1)
    (0 : Int)
    (-1 : Int))
  (cond (Z54 a1)
    (1 : Int)
    (cond (decide (a0 < a1))
      (-1 : Int)
      (cond (decide (a0 > a1))
        (1 : Int)
        (0 : Int))))
def Zf2 (a0 : Int) (a1 : Int) : RT :=
 (.ask (Z54 a0)
   (.ask (Z54 a1)
     (.leaf .ret ⟨Z9 20 [(4, .int .i64 0)], []⟩ [])
     (.leaf .ret ⟨Z9 20 [(4, .int .i64 (-1))], []⟩ []))
   (.ask (Z54 a1)
     (.leaf .ret ⟨Z9 20 [(4, .int .i64 1)], []⟩ [])
     (.ask (decide (a0 < a1))
       (.leaf .ret ⟨Z9 20 [(4, .int .i64 (-1))], []⟩ [])
       (.ask (decide (a0 > a1))
         (.leaf .ret ⟨Z9 20 [(4, .int .i64 1)], []⟩ [])
         (.leaf .ret ⟨Z9 20 [(4, .int .i64 0)], []⟩ [])))))
theorem Z149 (a0 : Int) (a1 : Int)  : Tr Try.prog 0 (Z3b Try.f58) (Z25 Try.f58 [.int .u64 a0, .int .u64 a1] []) (Z46 Try.prog Try.f58 (.int .i64 (Z19 a0 a1)) []) := by
 refine Z2f (kok _ _ _ _ _ _) (E := Z19a) (L := Z30) 60 9999 Z13.none (Zf2 a0 a1) (by kernel_rfl) (by kernel_rfl) (by kernel_rfl) ?_
 unfold Zf2
 refine ⟨fun h0 => ?_, fun h0 => ?_⟩
 · refine ⟨fun h1 => ?_, fun h1 => ?_⟩
   · have hF : Z19 a0 a1 = (0 : Int) := by first | exact (Z11 h0 (Z11 h1 rfl)) | simp only [Z19, h0, h1, cond_true, cond_false]
     exact ⟨trivial, .inl (by (try rw [hF]); kernel_rfl), by (try rw [hF]); kernel_rfl⟩
   · have hF : Z19 a0 a1 = (-1 : Int) := by first | exact (Z11 h0 (Z3 h1 rfl)) | simp only [Z19, h0, h1, cond_true, cond_false]
     exact ⟨trivial, .inl (by (try rw [hF]); kernel_rfl), by (try rw [hF]); kernel_rfl⟩
 · refine ⟨fun h1 => ?_, fun h1 => ?_⟩
   · have hF : Z19 a0 a1 = (1 : Int) := by first | exact (Z3 h0 (Z11 h1 rfl)) | simp only [Z19, h0, h1, cond_true, cond_false]
     exact ⟨trivial, .inl (by (try rw [hF]); kernel_rfl), by (try rw [hF]); kernel_rfl⟩
   · refine ⟨fun h2 => ?_, fun h2 => ?_⟩
     · have hF : Z19 a0 a1 = (-1 : Int) := by first | exact (Z3 h0 (Z3 h1 (Z11 h2 rfl))) | simp only [Z19, h0, h1, h2, cond_true, cond_false]
       exact ⟨trivial, .inl (by (try rw [hF]); kernel_rfl), by (try rw [hF]); kernel_rfl⟩
     · refine ⟨fun h3 => ?_, fun h3 => ?_⟩
       · have hF : Z19 a0 a1 = (1 : Int) := by first | exact (Z3 h0 (Z3 h1 (Z3 h2 (Z11 h3 rfl)))) | simp only [Z19, h0, h1, h2, h3, cond_true, cond_false]
         exact ⟨trivial, .inl (by (try rw [hF]); kernel_rfl), by (try rw [hF]); kernel_rfl⟩
       · have hF : Z19 a0 a1 = (0 : Int) := by first | exact (Z3 h0 (Z3 h1 (Z3 h2 (Z3 h3 rfl)))) | simp only [Z19, h0, h1, h2, h3, cond_true, cond_false]
         exact ⟨trivial, .inl (by (try rw [hF]); kernel_rfl), by (try rw [hF]); kernel_rfl⟩
noncomputable def Z137 : Fact Try.prog := Z4f 58 Try.f58 (by kernel_rfl) rfl (by kernel_rfl) [.c (.int .u64), .c (.int .u64)] [] true (fun t u => .int .i64 (Z19 t.1 t.2.1)) (fun t u => []) (fun t u => [])
 (fun _ _ _ => rfl) (fun t u => by kernel_rfl) (fun t u => by kernel_rfl) (fun t u h => Z149 t.1 t.2.1 )
noncomputable def E_dD_Do : Env := Z62 (P := Try.prog) [Z11c, driver_of_fact, Z137, dD_act_fact] [] [] ckf
def Z1a (a1 : XCall) (b1 : LA) (b2 : LB) (b3 : LC) (b4 : LD) : XRes × LA × LB × LC × LD :=
 cond (!(Z12 a1))
   ((⟨(2 : Int), (0 : Int), (⟨#[]⟩ : BA), (0 : Int)⟩ : XRes), b1, b2, b3, b4)
   (cond (cond (!((mget (k := .tgt) (v := .done) b4 (Z40 a1.verb a1.target)).isSome)) (decide ((b4.length : Int) ≥ (256 : Int))) false)
     ((⟨(7 : Int), (0 : Int), (⟨#[]⟩ : BA), (0 : Int)⟩ : XRes), b1, b2, b3, b4)
     (cond (cond ((mget (k := .tgt) (v := .done) b4 (Z40 a1.verb a1.target)).isSome) (decide ((Z19 a1.num (((mget (k := .tgt) (v := .done) b4 (Z40 a1.verb a1.target)).getD default).c.num)) < (0 : Int))) false)
       ((⟨(9 : Int), (0 : Int), (⟨#[]⟩ : BA), (0 : Int)⟩ : XRes), b1, b2, b3, b4)
       (cond (cond (cond ((mget (k := .tgt) (v := .done) b4 (Z40 a1.verb a1.target)).isSome) ((Z19 a1.num (((mget (k := .tgt) (v := .done) b4 (Z40 a1.verb a1.target)).getD default).c.num)) == (0 : Int)) false) (((((mget (k := .tgt) (v := .done) b4 (Z40 a1.verb a1.target)).getD default).c.verb) == a1.verb) && ((decide ((((mget (k := .tgt) (v := .done) b4 (Z40 a1.verb a1.target)).getD default).c.target) = a1.target)) && (((((mget (k := .tgt) (v := .done) b4 (Z40 a1.verb a1.target)).getD default).c.num) == a1.num) && (((((mget (k := .tgt) (v := .done) b4 (Z40 a1.verb a1.target)).getD default).c.size) == a1.size) && ((decide ((((mget (k := .tgt) (v := .done) b4 (Z40 a1.verb a1.target)).getD default).c.zone) = a1.zone)) && ((decide ((((mget (k := .tgt) (v := .done) b4 (Z40 a1.verb a1.target)).getD default).c.node) = a1.node)) && (decide ((((mget (k := .tgt) (v := .done) b4 (Z40 a1.verb a1.target)).getD default).c.source) = a1.source)))))))) false)
         ((⟨(((mget (k := .tgt) (v := .done) b4 (Z40 a1.verb a1.target)).getD default).r.err), (((mget (k := .tgt) (v := .done) b4 (Z40 a1.verb a1.target)).getD default).r.size), ((mget (k := .tgt) (v := .done) b4 (Z40 a1.verb a1.target)).getD default).r.zone, (((mget (k := .tgt) (v := .done) b4 (Z40 a1.verb a1.target)).getD default).r.tag)⟩ : XRes), b1, b2, b3, b4)
         (cond (cond ((mget (k := .tgt) (v := .done) b4 (Z40 a1.verb a1.target)).isSome) ((Z19 a1.num (((mget (k := .tgt) (v := .done) b4 (Z40 a1.verb a1.target)).getD default).c.num)) == (0 : Int)) false)
           ((⟨(6 : Int), (0 : Int), (⟨#[]⟩ : BA), (0 : Int)⟩ : XRes), b1, b2, b3, b4)
           (cond (!((((Z17 a1 b1 b2 b3 b4).1).err) == (0 : Int)))
             ((⟨(((Z17 a1 b1 b2 b3 b4).1).err), (0 : Int), (⟨#[]⟩ : BA), (0 : Int)⟩ : XRes), (Z17 a1 b1 b2 b3 b4).2.1, (Z17 a1 b1 b2 b3 b4).2.2.1, (Z17 a1 b1 b2 b3 b4).2.2.2, (mset (k := .tgt) (v := .done) b4 (Z40 a1.verb a1.target) (⟨a1, (⟨(((Z17 a1 b1 b2 b3 b4).1).err), (0 : Int), (⟨#[]⟩ : BA), (0 : Int)⟩ : XRes)⟩ : XDone)))
             (((Z17 a1 b1 b2 b3 b4).1), (Z17 a1 b1 b2 b3 b4).2.1, (Z17 a1 b1 b2 b3 b4).2.2.1, (Z17 a1 b1 b2 b3 b4).2.2.2, (mset (k := .tgt) (v := .done) b4 (Z40 a1.verb a1.target) (⟨a1, ((Z17 a1 b1 b2 b3 b4).1)⟩ : XDone))))))))
abbrev kDo0 (a1 : XCall) := (Z40 a1.verb a1.target)
def dD_DoR (a1 : XCall) (b1 : LA) (b2 : LB) (b3 : LC) (b4 : LD) : RT :=
 (.ask false
   .fail
   (.need [CS a1]
     (.ask (!(Z12 a1))
       (.leaf .ret ⟨Z9 95 [(4, .ptr 5 0)], (.cells 102 [.map 1, .map 2, .map 3, .map 4] :: oM b1 b2 b3 b4 [.cells 52 [.int .i64 2, .int .i64 0, .str (⟨#[]⟩ : BA), .int .u64 0]])⟩ [0, 1, 2, 3, 4, 6])
       (.ask (cond (!((mget (k := .tgt) (v := .done) b4 (kDo0 a1)).isSome)) (decide ((b4.length : Int) ≥ (256 : Int))) false)
         (.leaf .ret ⟨Z9 95 [(4, .ptr 5 0)], (.cells 102 [.map 1, .map 2, .map 3, .map 4] :: oM b1 b2 b3 b4 [.cells 52 [.int .i64 7, .int .i64 0, .str (⟨#[]⟩ : BA), .int .u64 0]])⟩ [0, 1, 2, 3, 4, 6])
         (.ask (cond ((mget (k := .tgt) (v := .done) b4 (kDo0 a1)).isSome) (decide ((Z19 a1.num (((mget (k := .tgt) (v := .done) b4 (kDo0 a1)).getD default).c.num)) < (0 : Int))) false)
           (.leaf .ret ⟨Z9 95 [(4, .ptr 5 0)], (.cells 102 [.map 1, .map 2, .map 3, .map 4] :: oM b1 b2 b3 b4 [.cells 52 [.int .i64 9, .int .i64 0, .str (⟨#[]⟩ : BA), .int .u64 0]])⟩ [0, 1, 2, 3, 4, 6])
           (.ask (cond (cond ((mget (k := .tgt) (v := .done) b4 (kDo0 a1)).isSome) ((Z19 a1.num (((mget (k := .tgt) (v := .done) b4 (kDo0 a1)).getD default).c.num)) == (0 : Int)) false) (((((mget (k := .tgt) (v := .done) b4 (kDo0 a1)).getD default).c.verb) == a1.verb) && ((decide ((((mget (k := .tgt) (v := .done) b4 (kDo0 a1)).getD default).c.target) = a1.target)) && (((((mget (k := .tgt) (v := .done) b4 (kDo0 a1)).getD default).c.num) == a1.num) && (((((mget (k := .tgt) (v := .done) b4 (kDo0 a1)).getD default).c.size) == a1.size) && ((decide ((((mget (k := .tgt) (v := .done) b4 (kDo0 a1)).getD default).c.zone) = a1.zone)) && ((decide ((((mget (k := .tgt) (v := .done) b4 (kDo0 a1)).getD default).c.node) = a1.node)) && (decide ((((mget (k := .tgt) (v := .done) b4 (kDo0 a1)).getD default).c.source) = a1.source)))))))) false)
             (.leaf .ret ⟨Z9 95 [(4, .ptr 5 0)], (.cells 102 [.map 1, .map 2, .map 3, .map 4] :: oM b1 b2 b3 b4 [.cells 52 [.int .i64 (((mget (k := .tgt) (v := .done) b4 (kDo0 a1)).getD default).r.err), .int .i64 (((mget (k := .tgt) (v := .done) b4 (kDo0 a1)).getD default).r.size), .str (((mget (k := .tgt) (v := .done) b4 (kDo0 a1)).getD default).r.zone), .int .u64 (((mget (k := .tgt) (v := .done) b4 (kDo0 a1)).getD default).r.tag)]])⟩ [0, 1, 2, 3, 4, 6])
             (.ask (cond ((mget (k := .tgt) (v := .done) b4 (kDo0 a1)).isSome) ((Z19 a1.num (((mget (k := .tgt) (v := .done) b4 (kDo0 a1)).getD default).c.num)) == (0 : Int)) false)
               (.leaf .ret ⟨Z9 95 [(4, .ptr 5 0)], (.cells 102 [.map 1, .map 2, .map 3, .map 4] :: oM b1 b2 b3 b4 [.cells 52 [.int .i64 6, .int .i64 0, .str (⟨#[]⟩ : BA), .int .u64 0]])⟩ [0, 1, 2, 3, 4, 6])
               (.ask (!((((Z17 a1 b1 b2 b3 b4).1).err) == (0 : Int)))
                 (.leaf .ret ⟨Z9 95 [(4, .ptr 5 0)], (.cells 102 [.map 1, .map 2, .map 3, .map 4] :: oM ((Z17 a1 b1 b2 b3 b4).2.1) ((Z17 a1 b1 b2 b3 b4).2.2.1) ((Z17 a1 b1 b2 b3 b4).2.2.2) (mset (k := .tgt) (v := .done) b4 (kDo0 a1) (⟨a1, (⟨(((Z17 a1 b1 b2 b3 b4).1).err), (0 : Int), (⟨#[]⟩ : BA), (0 : Int)⟩ : XRes)⟩ : XDone)) [.cells 52 [.int .i64 (((Z17 a1 b1 b2 b3 b4).1).err), .int .i64 0, .str (⟨#[]⟩ : BA), .int .u64 0]])⟩ [0, 1, 2, 3, 4, 6])
                 (.leaf .ret ⟨Z9 95 [(4, .ptr 5 0)], (.cells 102 [.map 1, .map 2, .map 3, .map 4] :: oM ((Z17 a1 b1 b2 b3 b4).2.1) ((Z17 a1 b1 b2 b3 b4).2.2.1) ((Z17 a1 b1 b2 b3 b4).2.2.2) (mset (k := .tgt) (v := .done) b4 (kDo0 a1) (⟨a1, ((Z17 a1 b1 b2 b3 b4).1)⟩ : XDone)) [.cells 52 [.int .i64 (((Z17 a1 b1 b2 b3 b4).1).err), .int .i64 (((Z17 a1 b1 b2 b3 b4).1).size), .str (((Z17 a1 b1 b2 b3 b4).1).zone), .int .u64 (((Z17 a1 b1 b2 b3 b4).1).tag)]])⟩ [0, 1, 2, 3, 4, 6])))))))))
theorem dD_DoF_tr (a1 : XCall) (b1 : LA) (b2 : LB) (b3 : LC) (b4 : LD) (hp0 : CS a1) : Tr Try.prog 5 (Z3b Try.f27) (Z25 Try.f27 [.ptr 0 0, .agg (cc a1)] (.cells 102 [.map 1, .map 2, .map 3, .map 4] :: oM b1 b2 b3 b4 [])) (Z46 Try.prog Try.f27 (.agg [.int .i64 (((Z1a a1 b1 b2 b3 b4).1).err), .int .i64 (((Z1a a1 b1 b2 b3 b4).1).size), .str (((Z1a a1 b1 b2 b3 b4).1).zone), .int .u64 (((Z1a a1 b1 b2 b3 b4).1).tag)]) (.cells 102 [.map 1, .map 2, .map 3, .map 4] :: oM ((Z1a a1 b1 b2 b3 b4).2.1) ((Z1a a1 b1 b2 b3 b4).2.2.1) ((Z1a a1 b1 b2 b3 b4).2.2.2.1) ((Z1a a1 b1 b2 b3 b4).2.2.2.2) [])) := by
 refine Z2f (kok _ _ _ _ _ _) (E := E_dD_Do) (L := Z30) 60 9999 Z13.none (dD_DoR a1 b1 b2 b3 b4) (by kernel_rfl) (by kernel_rfl) (by kernel_rfl) ?_
 unfold dD_DoR
 refine ⟨fun h0 => ?_, fun h0 => ?_⟩
 · exact absurd h0 (by simp)
 · refine ⟨Z2 (by first | assumption | omega | ((try intro _); (try simp only [decide_eq_true_eq, decide_eq_false_iff_not, Bool.cond_false_right, Bool.cond_true_right, Bool.cond_true_left, Bool.cond_false_left, Bool.and_eq_true, Bool.or_eq_true, Bool.not_eq_true', Z16, maxLen, List.length_cons, List.length_nil, List.length_append, Z48] at *); omega)) (Z7), ?_⟩
   refine ⟨fun h1 => ?_, fun h1 => ?_⟩
   · have hF : Z1a a1 b1 b2 b3 b4 = ((⟨(2 : Int), (0 : Int), (⟨#[]⟩ : BA), (0 : Int)⟩ : XRes), b1, b2, b3, b4) := by first | exact (Z11 h1 rfl) | simp only [Z1a, h0, h1, cond_true, cond_false]
     exact ⟨trivial, .inl (by (try rw [hF]); kernel_rfl), by (try rw [hF]); kernel_rfl⟩
   · refine ⟨fun h2 => ?_, fun h2 => ?_⟩
     · have hF : Z1a a1 b1 b2 b3 b4 = ((⟨(7 : Int), (0 : Int), (⟨#[]⟩ : BA), (0 : Int)⟩ : XRes), b1, b2, b3, b4) := by first | exact (Z3 h1 (Z11 h2 rfl)) | simp only [Z1a, h0, h1, h2, cond_true, cond_false]
       exact ⟨trivial, .inl (by (try rw [hF]); kernel_rfl), by (try rw [hF]); kernel_rfl⟩
     · refine ⟨fun h3 => ?_, fun h3 => ?_⟩
       · have hF : Z1a a1 b1 b2 b3 b4 = ((⟨(9 : Int), (0 : Int), (⟨#[]⟩ : BA), (0 : Int)⟩ : XRes), b1, b2, b3, b4) := by first | exact (Z3 h1 (Z3 h2 (Z11 h3 rfl))) | simp only [Z1a, h0, h1, h2, h3, cond_true, cond_false]
         exact ⟨trivial, .inl (by (try rw [hF]); kernel_rfl), by (try rw [hF]); kernel_rfl⟩
       · refine ⟨fun h4 => ?_, fun h4 => ?_⟩
         · have hF : Z1a a1 b1 b2 b3 b4 = ((⟨(((mget (k := .tgt) (v := .done) b4 (kDo0 a1)).getD default).r.err), (((mget (k := .tgt) (v := .done) b4 (kDo0 a1)).getD default).r.size), ((mget (k := .tgt) (v := .done) b4 (kDo0 a1)).getD default).r.zone, (((mget (k := .tgt) (v := .done) b4 (kDo0 a1)).getD default).r.tag)⟩ : XRes), b1, b2, b3, b4) := by first | exact (Z3 h1 (Z3 h2 (Z3 h3 (Z11 h4 rfl)))) | simp only [Z1a, h0, h1, h2, h3, h4, cond_true, cond_false]
           exact ⟨trivial, .inl (by (try rw [hF]); kernel_rfl), by (try rw [hF]); kernel_rfl⟩
         · refine ⟨fun h5 => ?_, fun h5 => ?_⟩
           · have hF : Z1a a1 b1 b2 b3 b4 = ((⟨(6 : Int), (0 : Int), (⟨#[]⟩ : BA), (0 : Int)⟩ : XRes), b1, b2, b3, b4) := by first | exact (Z3 h1 (Z3 h2 (Z3 h3 (Z3 h4 (Z11 h5 rfl))))) | simp only [Z1a, h0, h1, h2, h3, h4, h5, cond_true, cond_false]
             exact ⟨trivial, .inl (by (try rw [hF]); kernel_rfl), by (try rw [hF]); kernel_rfl⟩
           · refine ⟨fun h6 => ?_, fun h6 => ?_⟩
             · have hF : Z1a a1 b1 b2 b3 b4 = ((⟨(((Z17 a1 b1 b2 b3 b4).1).err), (0 : Int), (⟨#[]⟩ : BA), (0 : Int)⟩ : XRes), (Z17 a1 b1 b2 b3 b4).2.1, (Z17 a1 b1 b2 b3 b4).2.2.1, (Z17 a1 b1 b2 b3 b4).2.2.2, (mset (k := .tgt) (v := .done) b4 (kDo0 a1) (⟨a1, (⟨(((Z17 a1 b1 b2 b3 b4).1).err), (0 : Int), (⟨#[]⟩ : BA), (0 : Int)⟩ : XRes)⟩ : XDone))) := by first | exact (Z3 h1 (Z3 h2 (Z3 h3 (Z3 h4 (Z3 h5 (Z11 h6 rfl)))))) | simp only [Z1a, h0, h1, h2, h3, h4, h5, h6, cond_true, cond_false]
               exact ⟨trivial, .inl (by (try rw [hF]); kernel_rfl), by (try rw [hF]); kernel_rfl⟩
             · have hF : Z1a a1 b1 b2 b3 b4 = (((Z17 a1 b1 b2 b3 b4).1), (Z17 a1 b1 b2 b3 b4).2.1, (Z17 a1 b1 b2 b3 b4).2.2.1, (Z17 a1 b1 b2 b3 b4).2.2.2, (mset (k := .tgt) (v := .done) b4 (kDo0 a1) (⟨a1, ((Z17 a1 b1 b2 b3 b4).1)⟩ : XDone))) := by first | exact (Z3 h1 (Z3 h2 (Z3 h3 (Z3 h4 (Z3 h5 (Z3 h6 rfl)))))) | simp only [Z1a, h0, h1, h2, h3, h4, h5, h6, cond_true, cond_false]
               exact ⟨trivial, .inl (by (try rw [hF]); kernel_rfl), by (try rw [hF]); kernel_rfl⟩
noncomputable def dD_Do_fact0 : Fact Try.prog := Z4f 27 Try.f27 (by kernel_rfl) rfl (by kernel_rfl) [.c (.ptr 0 0), .st .call] [.cells 102 [.map 1, .map 2, .map 3, .map 4], .map .str (.int .i64), .vols, .map .str .sn, .map .tgt .done] false (fun t u => .agg [.int .i64 (((Z1a t.2.1 u.2.1 u.2.2.1 u.2.2.2.1 u.2.2.2.2.1).1).err), .int .i64 (((Z1a t.2.1 u.2.1 u.2.2.1 u.2.2.2.1 u.2.2.2.2.1).1).size), .str (((Z1a t.2.1 u.2.1 u.2.2.1 u.2.2.2.1 u.2.2.2.2.1).1).zone), .int .u64 (((Z1a t.2.1 u.2.1 u.2.2.1 u.2.2.2.1 u.2.2.2.2.1).1).tag)]) (fun t u => (.cells 102 [.map 1, .map 2, .map 3, .map 4] :: oM ((Z1a t.2.1 u.2.1 u.2.2.1 u.2.2.2.1 u.2.2.2.2.1).2.1) ((Z1a t.2.1 u.2.1 u.2.2.1 u.2.2.2.1 u.2.2.2.2.1).2.2.1) ((Z1a t.2.1 u.2.1 u.2.2.1 u.2.2.2.1 u.2.2.2.2.1).2.2.2.1) ((Z1a t.2.1 u.2.1 u.2.2.1 u.2.2.2.1 u.2.2.2.2.1).2.2.2.2) [])) (fun t u => [CS t.2.1])
 (nofun) (fun t u => by kernel_rfl) (fun t u => by kernel_rfl) (fun t u h => dD_DoF_tr t.2.1 u.2.1 u.2.2.1 u.2.2.2.1 u.2.2.2.2.1 (h _ mS))
noncomputable def dD_Do_fact : Fact Try.prog := Z88 dD_Do_fact0 [.c (.ptr 0 0), .st .call] [.cells 102 [.map 1, .map 2, .map 3, .map 4], .map .str (.int .i64), .vols, .map .str .sn, .map .tgt .done] (fun t u => .agg [.int .i64 (((Z1a t.2.1 u.2.1 u.2.2.1 u.2.2.2.1 u.2.2.2.2.1).1).err), .int .i64 (((Z1a t.2.1 u.2.1 u.2.2.1 u.2.2.2.1 u.2.2.2.2.1).1).size), .str (((Z1a t.2.1 u.2.1 u.2.2.1 u.2.2.2.1 u.2.2.2.2.1).1).zone), .int .u64 (((Z1a t.2.1 u.2.1 u.2.2.1 u.2.2.2.1 u.2.2.2.2.1).1).tag)]) (fun t u => (.cells 102 [.map 1, .map 2, .map 3, .map 4] :: oM ((Z1a t.2.1 u.2.1 u.2.2.1 u.2.2.2.1 u.2.2.2.2.1).2.1) ((Z1a t.2.1 u.2.1 u.2.2.1 u.2.2.2.1 u.2.2.2.2.1).2.2.1) ((Z1a t.2.1 u.2.1 u.2.2.1 u.2.2.2.1 u.2.2.2.2.1).2.2.2.1) ((Z1a t.2.1 u.2.1 u.2.2.1 u.2.2.2.1 u.2.2.2.2.1).2.2.2.2) [])) (fun t u => [CS t.2.1]) rfl [0] (by
 intro t u k hk
 obtain rfl := List.mem_singleton.1 hk
 all_goals exact ⟨by decide, rfl⟩)
noncomputable def E_dD_Put : Env := Z62 (P := Try.prog) [] [] [] ckf
def Z90 (a1 : BA) (a2 : BA) (a3 : Int) (b1 : LA) (b2 : LB) (b3 : LC) (b4 : LD) : Int × LB :=
 cond (!((vget b2 a1).isSome))
   ((5 : Int), b2)
   (cond (!(((vget b2 a1).bind fun v => mget (k := .str) (v := .bool) v.nodes a2).getD false))
     ((10 : Int), b2)
     ((0 : Int), (vset b2 a1 ⟨(((vget b2 a1).getD default).size), ((vget b2 a1).getD default).zone, a3, ((vget b2 a1).getD default).nodes⟩)))
def dD_PutR (a1 : BA) (a2 : BA) (a3 : Int) (b1 : LA) (b2 : LB) (b3 : LC) (b4 : LD) : RT :=
 (.ask false
   .fail
   (.ask (!((vget b2 a1).isSome))
     (.leaf .ret ⟨Z9 39 [(8, .int .i64 5)], (.cells 102 [.map 1, .map 2, .map 3, .map 4] :: oM b1 b2 b3 b4 [])⟩ [])
     (.need [(vget b2 a1).isSome = (vget b2 a1).isSome]
       (.ask (!(((vget b2 a1).bind fun v => mget (k := .str) (v := .bool) v.nodes a2).getD false))
         (.leaf .ret ⟨Z9 39 [(8, .int .i64 10)], (.cells 102 [.map 1, .map 2, .map 3, .map 4] :: oM b1 b2 b3 b4 [])⟩ [])
         (.need [a1 = a1 ∧ (vget b2 a1).isSome = true ∧ (vget b2 a1).isSome = true]
           (.leaf .ret ⟨Z9 39 [(8, .int .i64 0)], (.cells 102 [.map 1, .map 2, .map 3, .map 4] :: oM b1 (vset b2 a1 ⟨(((vget b2 a1).getD default).size), ((vget b2 a1).getD default).zone, a3, ((vget b2 a1).getD default).nodes⟩) b3 b4 [])⟩ []))))))
theorem dD_PutF_tr (a1 : BA) (a2 : BA) (a3 : Int) (b1 : LA) (b2 : LB) (b3 : LC) (b4 : LD)  : Tr Try.prog 5 (Z3b Try.f33) (Z25 Try.f33 [.ptr 0 0, .str a1, .str a2, .int .u64 a3] (.cells 102 [.map 1, .map 2, .map 3, .map 4] :: oM b1 b2 b3 b4 [])) (Z46 Try.prog Try.f33 (.int .i64 ((Z90 a1 a2 a3 b1 b2 b3 b4).1)) (.cells 102 [.map 1, .map 2, .map 3, .map 4] :: oM b1 ((Z90 a1 a2 a3 b1 b2 b3 b4).2) b3 b4 [])) := by
 refine Z2f (kok _ _ _ _ _ _) (E := E_dD_Put) (L := Z30) 60 9999 Z13.none (dD_PutR a1 a2 a3 b1 b2 b3 b4) (by kernel_rfl) (by kernel_rfl) (by kernel_rfl) ?_
 unfold dD_PutR
 refine ⟨fun h0 => ?_, fun h0 => ?_⟩
 · exact absurd h0 (by simp)
 · refine ⟨fun h1 => ?_, fun h1 => ?_⟩
   · have hF : Z90 a1 a2 a3 b1 b2 b3 b4 = ((5 : Int), b2) := by first | exact (Z11 h1 rfl) | simp only [Z90, h0, h1, cond_true, cond_false]
     exact ⟨trivial, .inl (by (try rw [hF]); kernel_rfl), by (try rw [hF]); kernel_rfl⟩
   · refine ⟨Z2 (by first | rfl | exact ⟨rfl, h0, h0⟩ | exact ⟨rfl, h1, h1⟩ | exact ⟨h0, h0⟩ | exact ⟨h1, h1⟩ | (simp_all; done)) (Z7), ?_⟩
     refine ⟨fun h2 => ?_, fun h2 => ?_⟩
     · have hF : Z90 a1 a2 a3 b1 b2 b3 b4 = ((10 : Int), b2) := by first | exact (Z3 h1 (Z11 h2 rfl)) | simp only [Z90, h0, h1, h2, cond_true, cond_false]
       exact ⟨trivial, .inl (by (try rw [hF]); kernel_rfl), by (try rw [hF]); kernel_rfl⟩
     · refine ⟨Z2 (by first | rfl | exact ⟨rfl, h0, h0⟩ | exact ⟨rfl, h1, h1⟩ | exact ⟨h0, h0⟩ | exact ⟨h1, h1⟩ | (simp_all; done)) (Z7), ?_⟩
       have hF : Z90 a1 a2 a3 b1 b2 b3 b4 = ((0 : Int), (vset b2 a1 ⟨(((vget b2 a1).getD default).size), ((vget b2 a1).getD default).zone, a3, ((vget b2 a1).getD default).nodes⟩)) := by first | exact (Z3 h1 (Z3 h2 rfl)) | simp only [Z90, h0, h1, h2, cond_true, cond_false]
       exact ⟨trivial, .inl (by (try rw [hF]); kernel_rfl), by (try rw [hF]); kernel_rfl⟩
noncomputable def dD_Put_fact0 : Fact Try.prog := Z4f 33 Try.f33 (by kernel_rfl) rfl (by kernel_rfl) [.c (.ptr 0 0), .c (.str), .c (.str), .c (.int .u64)] [.cells 102 [.map 1, .map 2, .map 3, .map 4], .map .str (.int .i64), .vols, .map .str .sn, .map .tgt .done] false (fun t u => .int .i64 ((Z90 t.2.1 t.2.2.1 t.2.2.2.1 u.2.1 u.2.2.1 u.2.2.2.1 u.2.2.2.2.1).1)) (fun t u => (.cells 102 [.map 1, .map 2, .map 3, .map 4] :: oM (u.2.1) ((Z90 t.2.1 t.2.2.1 t.2.2.2.1 u.2.1 u.2.2.1 u.2.2.2.1 u.2.2.2.2.1).2) (u.2.2.2.1) (u.2.2.2.2.1) [])) (fun t u => [])
 (nofun) (fun t u => by kernel_rfl) (fun t u => by kernel_rfl) (fun t u h => dD_PutF_tr t.2.1 t.2.2.1 t.2.2.2.1 u.2.1 u.2.2.1 u.2.2.2.1 u.2.2.2.2.1 )
noncomputable def dD_Put_fact : Fact Try.prog := Z88 dD_Put_fact0 [.c (.ptr 0 0), .c (.str), .c (.str), .c (.int .u64)] [.cells 102 [.map 1, .map 2, .map 3, .map 4], .map .str (.int .i64), .vols, .map .str .sn, .map .tgt .done] (fun t u => .int .i64 ((Z90 t.2.1 t.2.2.1 t.2.2.2.1 u.2.1 u.2.2.1 u.2.2.2.1 u.2.2.2.2.1).1)) (fun t u => (.cells 102 [.map 1, .map 2, .map 3, .map 4] :: oM (u.2.1) ((Z90 t.2.1 t.2.2.1 t.2.2.2.1 u.2.1 u.2.2.1 u.2.2.2.1 u.2.2.2.2.1).2) (u.2.2.2.1) (u.2.2.2.2.1) [])) (fun t u => []) rfl [0, 1, 3, 4] (by
 intro t u k hk
 simp only [List.mem_cons, List.not_mem_nil, or_false] at hk
 rcases hk with rfl | rfl | rfl | rfl
 all_goals exact ⟨by decide, rfl⟩)
noncomputable def E_dD_Room : Env := Z62 (P := Try.prog) [] [] [] ckf
def Zcf (a1 : BA) (b1 : LA) (b2 : LB) (b3 : LC) (b4 : LD) : Int × Bool :=
 (((mget (k := .str) (v := (.int .i64)) b1 a1).getD default), (mget (k := .str) (v := (.int .i64)) b1 a1).isSome)
def dD_RoomR (a1 : BA) (b1 : LA) (b2 : LB) (b3 : LC) (b4 : LD) : RT :=
 (.ask false
   .fail
   (.leaf .ret ⟨Z9 21 [(4, .int .i64 ((mget (k := .str) (v := (.int .i64)) b1 a1).getD default)), (5, .bool ((mget (k := .str) (v := (.int .i64)) b1 a1).isSome))], (.cells 102 [.map 1, .map 2, .map 3, .map 4] :: oM b1 b2 b3 b4 [])⟩ []))
theorem dD_RoomF_tr (a1 : BA) (b1 : LA) (b2 : LB) (b3 : LC) (b4 : LD)  : Tr Try.prog 5 (Z3b Try.f22) (Z25 Try.f22 [.ptr 0 0, .str a1] (.cells 102 [.map 1, .map 2, .map 3, .map 4] :: oM b1 b2 b3 b4 [])) (Z46 Try.prog Try.f22 (.tup [.int .i64 ((Zcf a1 b1 b2 b3 b4).1), .bool ((Zcf a1 b1 b2 b3 b4).2)]) (.cells 102 [.map 1, .map 2, .map 3, .map 4] :: oM b1 b2 b3 b4 [])) := by
 refine Z2f (kok _ _ _ _ _ _) (E := E_dD_Room) (L := Z30) 60 9999 Z13.none (dD_RoomR a1 b1 b2 b3 b4) (by kernel_rfl) (by kernel_rfl) (by kernel_rfl) ?_
 unfold dD_RoomR
 refine ⟨fun h0 => ?_, fun h0 => ?_⟩
 · exact absurd h0 (by simp)
 · have hF : Zcf a1 b1 b2 b3 b4 = (((mget (k := .str) (v := (.int .i64)) b1 a1).getD default), (mget (k := .str) (v := (.int .i64)) b1 a1).isSome) := by first | exact rfl | simp only [Zcf, h0, cond_true, cond_false]
   exact ⟨trivial, .inl (by (try rw [hF]); kernel_rfl), by (try rw [hF]); kernel_rfl⟩
noncomputable def dD_Room_fact : Fact Try.prog := Z4f 22 Try.f22 (by kernel_rfl) rfl (by kernel_rfl) [.c (.ptr 0 0), .c (.str)] [.cells 102 [.map 1, .map 2, .map 3, .map 4], .map .str (.int .i64), .vols, .map .str .sn, .map .tgt .done] true (fun t u => .tup [.int .i64 ((Zcf t.2.1 u.2.1 u.2.2.1 u.2.2.2.1 u.2.2.2.2.1).1), .bool ((Zcf t.2.1 u.2.1 u.2.2.1 u.2.2.2.1 u.2.2.2.2.1).2)]) (fun t u => HPL.enc _ u) (fun t u => [])
 (fun _ _ _ => rfl) (fun t u => by kernel_rfl) (fun t u => by kernel_rfl) (fun t u h => dD_RoomF_tr t.2.1 u.2.1 u.2.2.1 u.2.2.2.1 u.2.2.2.2.1 )
end Go.Proofs.Ytpffbkbadnhmmaa
