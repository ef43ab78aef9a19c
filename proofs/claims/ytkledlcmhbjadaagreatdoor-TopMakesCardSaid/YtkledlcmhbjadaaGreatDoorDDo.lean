/- The driver: calls. -/
import Derived.Test.YtkledlcmhbjadaaGreatDoorDAct
set_option linter.unusedVariables false
set_option linter.unusedSimpArgs false
set_option maxRecDepth 100000
namespace Go.Proofs.YtkledlcmhbjadaaGreatDoor
open Go Go.Eng
noncomputable def E_driver_of : Env := Z57 (P := Tryz.prog) [] [] [] ckf
def Z1a (a0 : Int) (a1 : ByteArray) : XTgt :=
 (⟨cond (a0 == (6 : Int)) true (a0 == (7 : Int)), a1⟩ : XTgt)
def driver_ofR (a0 : Int) (a1 : ByteArray) : RT :=
 (.leaf .ret ⟨Z9 13 [(4, .ptr 0 0)], [.cells 98 [.bool (cond (a0 == (6 : Int)) true (a0 == (7 : Int))), .str a1]]⟩ [])
theorem driver_ofF_tr (a0 : Int) (a1 : ByteArray)  : Tr Tryz.prog 0 (Z3a Tryz.f45) (Z1f Tryz.f45 [.int .u8 a0, .str a1] []) (Z4a Tryz.prog Tryz.f45 (.agg [.bool ((Z1a a0 a1).snap), .str ((Z1a a0 a1).name)]) []) := by
 refine Z20 (kok _ _ _ _ _ _) (E := E_driver_of) (L := Z2a) 60 9999 Z14.none (driver_ofR a0 a1) (by kernel_rfl) (by kernel_rfl) (by kernel_rfl) ?_
 unfold driver_ofR
 exact ⟨trivial, .inl (by kernel_rfl), by kernel_rfl⟩
noncomputable def driver_of_fact : Fact Tryz.prog := Z50 45 Tryz.f45 (by kernel_rfl) rfl (by kernel_rfl) [.c (.int .u8), .c (.str)] [] true (fun t u => .agg [.bool ((Z1a t.1 t.2.1).snap), .str ((Z1a t.1 t.2.1).name)]) (fun t u => []) (fun t u => [])
 (fun _ _ _ => rfl) (fun t u => by kernel_rfl) (fun t u => by kernel_rfl) (fun t u h => driver_ofF_tr t.1 t.2.1 )
noncomputable def Z22b : Env := Z57 (P := Tryz.prog) [] [] [] ckf
def Z58 (a0 : Int) : Bool :=
 !(a0 == a0)
def Z141 (a0 : Int) : RT :=
 (.leaf .ret ⟨Z9 6 [(2, .bool (!(a0 == a0)))], []⟩ [])
theorem Z1c5 (a0 : Int)  : Tr Tryz.prog 0 (Z3a Tryz.f53) (Z1f Tryz.f53 [.int .u64 a0] []) (Z4a Tryz.prog Tryz.f53 (.bool (Z58 a0)) []) := by
 refine Z20 (kok _ _ _ _ _ _) (E := Z22b) (L := Z2a) 60 9999 Z14.none (Z141 a0) (by kernel_rfl) (by kernel_rfl) (by kernel_rfl) ?_
 unfold Z141
 exact ⟨trivial, .inl (by kernel_rfl), by kernel_rfl⟩
noncomputable def Z19a : Fact Tryz.prog := Z50 53 Tryz.f53 (by kernel_rfl) rfl (by kernel_rfl) [.c (.int .u64)] [] true (fun t u => .bool (Z58 t.1)) (fun t u => []) (fun t u => [])
 (fun _ _ _ => rfl) (fun t u => by kernel_rfl) (fun t u => by kernel_rfl) (fun t u h => Z1c5 t.1 )
noncomputable def Z1cf : Env := Z57 (P := Tryz.prog) [Z19a] [] [] ckf
def Z17 (a0 : Int) (a1 : Int) : Int :=
 cond (Z58 a0)
  (cond (Z58 a1)
    (0 : Int)
    (-1 : Int))
  (cond (Z58 a1)
    (1 : Int)
    (cond (decide (a0 < a1))
      (-1 : Int)
      (cond (decide (a0 > a1))
        (1 : Int)
        (0 : Int))))
def Z107 (a0 : Int) (a1 : Int) : RT :=
 (.ask (Z58 a0)
   (.ask (Z58 a1)
     (.leaf .ret ⟨Z9 20 [(4, .int .i64 0)], []⟩ [])
     (.leaf .ret ⟨Z9 20 [(4, .int .i64 (-1))], []⟩ []))
   (.ask (Z58 a1)
     (.leaf .ret ⟨Z9 20 [(4, .int .i64 1)], []⟩ [])
     (.ask (decide (a0 < a1))
       (.leaf .ret ⟨Z9 20 [(4, .int .i64 (-1))], []⟩ [])
       (.ask (decide (a0 > a1))
         (.leaf .ret ⟨Z9 20 [(4, .int .i64 1)], []⟩ [])
         (.leaf .ret ⟨Z9 20 [(4, .int .i64 0)], []⟩ [])))))
theorem Z175 (a0 : Int) (a1 : Int)  : Tr Tryz.prog 0 (Z3a Tryz.f46) (Z1f Tryz.f46 [.int .u64 a0, .int .u64 a1] []) (Z4a Tryz.prog Tryz.f46 (.int .i64 (Z17 a0 a1)) []) := by
 refine Z20 (kok _ _ _ _ _ _) (E := Z1cf) (L := Z2a) 60 9999 Z14.none (Z107 a0 a1) (by kernel_rfl) (by kernel_rfl) (by kernel_rfl) ?_
 unfold Z107
 refine ⟨fun h0 => ?_, fun h0 => ?_⟩
 · refine ⟨fun h1 => ?_, fun h1 => ?_⟩
   · have hF : Z17 a0 a1 = (0 : Int) := by first | exact (Zb h0 (Zb h1 rfl)) | simp only [Z17, h0, h1, cond_true, cond_false]
     exact ⟨trivial, .inl (by (try rw [hF]); kernel_rfl), by (try rw [hF]); kernel_rfl⟩
   · have hF : Z17 a0 a1 = (-1 : Int) := by first | exact (Zb h0 (Z5 h1 rfl)) | simp only [Z17, h0, h1, cond_true, cond_false]
     exact ⟨trivial, .inl (by (try rw [hF]); kernel_rfl), by (try rw [hF]); kernel_rfl⟩
 · refine ⟨fun h1 => ?_, fun h1 => ?_⟩
   · have hF : Z17 a0 a1 = (1 : Int) := by first | exact (Z5 h0 (Zb h1 rfl)) | simp only [Z17, h0, h1, cond_true, cond_false]
     exact ⟨trivial, .inl (by (try rw [hF]); kernel_rfl), by (try rw [hF]); kernel_rfl⟩
   · refine ⟨fun h2 => ?_, fun h2 => ?_⟩
     · have hF : Z17 a0 a1 = (-1 : Int) := by first | exact (Z5 h0 (Z5 h1 (Zb h2 rfl))) | simp only [Z17, h0, h1, h2, cond_true, cond_false]
       exact ⟨trivial, .inl (by (try rw [hF]); kernel_rfl), by (try rw [hF]); kernel_rfl⟩
     · refine ⟨fun h3 => ?_, fun h3 => ?_⟩
       · have hF : Z17 a0 a1 = (1 : Int) := by first | exact (Z5 h0 (Z5 h1 (Z5 h2 (Zb h3 rfl)))) | simp only [Z17, h0, h1, h2, h3, cond_true, cond_false]
         exact ⟨trivial, .inl (by (try rw [hF]); kernel_rfl), by (try rw [hF]); kernel_rfl⟩
       · have hF : Z17 a0 a1 = (0 : Int) := by first | exact (Z5 h0 (Z5 h1 (Z5 h2 (Z5 h3 rfl)))) | simp only [Z17, h0, h1, h2, h3, cond_true, cond_false]
         exact ⟨trivial, .inl (by (try rw [hF]); kernel_rfl), by (try rw [hF]); kernel_rfl⟩
noncomputable def Z15c : Fact Tryz.prog := Z50 46 Tryz.f46 (by kernel_rfl) rfl (by kernel_rfl) [.c (.int .u64), .c (.int .u64)] [] true (fun t u => .int .i64 (Z17 t.1 t.2.1)) (fun t u => []) (fun t u => [])
 (fun _ _ _ => rfl) (fun t u => by kernel_rfl) (fun t u => by kernel_rfl) (fun t u h => Z175 t.1 t.2.1 )
noncomputable def E_dD_Do : Env := Z57 (P := Tryz.prog) [Z13e, driver_of_fact, Z15c, dD_act_fact] [] [] ckf
def Z2e (a1 : XCall) (b1 : List (ByteArray × Int)) (b2 : List (ByteArray × XVn)) (b3 : List (ByteArray × XSn)) (b4 : List (XTgt × XDone)) : XRes × (List (ByteArray × Int)) × (List (ByteArray × XVn)) × (List (ByteArray × XSn)) × (List (XTgt × XDone)) :=
 cond (!(Z32 a1))
   ((⟨(2 : Int), (0 : Int), (⟨#[]⟩ : ByteArray), (0 : Int)⟩ : XRes), b1, b2, b3, b4)
   (cond (cond (!((mget (k := .tgt) (v := .done) b4 (Z1a a1.verb a1.target)).isSome)) (decide ((b4.length : Int) ≥ (256 : Int))) false)
     ((⟨(7 : Int), (0 : Int), (⟨#[]⟩ : ByteArray), (0 : Int)⟩ : XRes), b1, b2, b3, b4)
     (cond (cond ((mget (k := .tgt) (v := .done) b4 (Z1a a1.verb a1.target)).isSome) (decide ((Z17 a1.num (((mget (k := .tgt) (v := .done) b4 (Z1a a1.verb a1.target)).getD default).c.num)) < (0 : Int))) false)
       ((⟨(9 : Int), (0 : Int), (⟨#[]⟩ : ByteArray), (0 : Int)⟩ : XRes), b1, b2, b3, b4)
       (cond (cond (cond ((mget (k := .tgt) (v := .done) b4 (Z1a a1.verb a1.target)).isSome) ((Z17 a1.num (((mget (k := .tgt) (v := .done) b4 (Z1a a1.verb a1.target)).getD default).c.num)) == (0 : Int)) false) (((((mget (k := .tgt) (v := .done) b4 (Z1a a1.verb a1.target)).getD default).c.verb) == a1.verb) && ((decide ((((mget (k := .tgt) (v := .done) b4 (Z1a a1.verb a1.target)).getD default).c.target) = a1.target)) && (((((mget (k := .tgt) (v := .done) b4 (Z1a a1.verb a1.target)).getD default).c.num) == a1.num) && (((((mget (k := .tgt) (v := .done) b4 (Z1a a1.verb a1.target)).getD default).c.size) == a1.size) && ((decide ((((mget (k := .tgt) (v := .done) b4 (Z1a a1.verb a1.target)).getD default).c.zone) = a1.zone)) && ((decide ((((mget (k := .tgt) (v := .done) b4 (Z1a a1.verb a1.target)).getD default).c.node) = a1.node)) && (decide ((((mget (k := .tgt) (v := .done) b4 (Z1a a1.verb a1.target)).getD default).c.source) = a1.source)))))))) false)
         ((⟨(((mget (k := .tgt) (v := .done) b4 (Z1a a1.verb a1.target)).getD default).r.err), (((mget (k := .tgt) (v := .done) b4 (Z1a a1.verb a1.target)).getD default).r.size), ((mget (k := .tgt) (v := .done) b4 (Z1a a1.verb a1.target)).getD default).r.zone, (((mget (k := .tgt) (v := .done) b4 (Z1a a1.verb a1.target)).getD default).r.tag)⟩ : XRes), b1, b2, b3, b4)
         (cond (cond ((mget (k := .tgt) (v := .done) b4 (Z1a a1.verb a1.target)).isSome) ((Z17 a1.num (((mget (k := .tgt) (v := .done) b4 (Z1a a1.verb a1.target)).getD default).c.num)) == (0 : Int)) false)
           ((⟨(6 : Int), (0 : Int), (⟨#[]⟩ : ByteArray), (0 : Int)⟩ : XRes), b1, b2, b3, b4)
           (cond (!((((Z21 a1 b1 b2 b3 b4).1).err) == (0 : Int)))
             ((⟨(((Z21 a1 b1 b2 b3 b4).1).err), (0 : Int), (⟨#[]⟩ : ByteArray), (0 : Int)⟩ : XRes), (Z21 a1 b1 b2 b3 b4).2.1, (Z21 a1 b1 b2 b3 b4).2.2.1, (Z21 a1 b1 b2 b3 b4).2.2.2, (mset (k := .tgt) (v := .done) b4 (Z1a a1.verb a1.target) (⟨a1, (⟨(((Z21 a1 b1 b2 b3 b4).1).err), (0 : Int), (⟨#[]⟩ : ByteArray), (0 : Int)⟩ : XRes)⟩ : XDone)))
             (((Z21 a1 b1 b2 b3 b4).1), (Z21 a1 b1 b2 b3 b4).2.1, (Z21 a1 b1 b2 b3 b4).2.2.1, (Z21 a1 b1 b2 b3 b4).2.2.2, (mset (k := .tgt) (v := .done) b4 (Z1a a1.verb a1.target) (⟨a1, ((Z21 a1 b1 b2 b3 b4).1)⟩ : XDone))))))))
def dD_DoR (a1 : XCall) (b1 : List (ByteArray × Int)) (b2 : List (ByteArray × XVn)) (b3 : List (ByteArray × XSn)) (b4 : List (XTgt × XDone)) : RT :=
 (.ask false
   .fail
   (.need [CS a1]
     (.ask (!(Z32 a1))
       (.leaf .ret ⟨Z9 95 [(4, .ptr 5 0)], (.cells 89 [.map 1, .map 2, .map 3, .map 4] :: oM b1 b2 b3 b4 [.cells 44 [.int .i64 2, .int .i64 0, .str (⟨#[]⟩ : ByteArray), .int .u64 0]])⟩ [0, 1, 2, 3, 4, 6])
       (.ask (cond (!((mget (k := .tgt) (v := .done) b4 (Z1a a1.verb a1.target)).isSome)) (decide ((b4.length : Int) ≥ (256 : Int))) false)
         (.leaf .ret ⟨Z9 95 [(4, .ptr 5 0)], (.cells 89 [.map 1, .map 2, .map 3, .map 4] :: oM b1 b2 b3 b4 [.cells 44 [.int .i64 7, .int .i64 0, .str (⟨#[]⟩ : ByteArray), .int .u64 0]])⟩ [0, 1, 2, 3, 4, 6])
         (.ask (cond ((mget (k := .tgt) (v := .done) b4 (Z1a a1.verb a1.target)).isSome) (decide ((Z17 a1.num (((mget (k := .tgt) (v := .done) b4 (Z1a a1.verb a1.target)).getD default).c.num)) < (0 : Int))) false)
           (.leaf .ret ⟨Z9 95 [(4, .ptr 5 0)], (.cells 89 [.map 1, .map 2, .map 3, .map 4] :: oM b1 b2 b3 b4 [.cells 44 [.int .i64 9, .int .i64 0, .str (⟨#[]⟩ : ByteArray), .int .u64 0]])⟩ [0, 1, 2, 3, 4, 6])
           (.ask (cond (cond ((mget (k := .tgt) (v := .done) b4 (Z1a a1.verb a1.target)).isSome) ((Z17 a1.num (((mget (k := .tgt) (v := .done) b4 (Z1a a1.verb a1.target)).getD default).c.num)) == (0 : Int)) false) (((((mget (k := .tgt) (v := .done) b4 (Z1a a1.verb a1.target)).getD default).c.verb) == a1.verb) && ((decide ((((mget (k := .tgt) (v := .done) b4 (Z1a a1.verb a1.target)).getD default).c.target) = a1.target)) && (((((mget (k := .tgt) (v := .done) b4 (Z1a a1.verb a1.target)).getD default).c.num) == a1.num) && (((((mget (k := .tgt) (v := .done) b4 (Z1a a1.verb a1.target)).getD default).c.size) == a1.size) && ((decide ((((mget (k := .tgt) (v := .done) b4 (Z1a a1.verb a1.target)).getD default).c.zone) = a1.zone)) && ((decide ((((mget (k := .tgt) (v := .done) b4 (Z1a a1.verb a1.target)).getD default).c.node) = a1.node)) && (decide ((((mget (k := .tgt) (v := .done) b4 (Z1a a1.verb a1.target)).getD default).c.source) = a1.source)))))))) false)
             (.leaf .ret ⟨Z9 95 [(4, .ptr 5 0)], (.cells 89 [.map 1, .map 2, .map 3, .map 4] :: oM b1 b2 b3 b4 [.cells 44 [.int .i64 (((mget (k := .tgt) (v := .done) b4 (Z1a a1.verb a1.target)).getD default).r.err), .int .i64 (((mget (k := .tgt) (v := .done) b4 (Z1a a1.verb a1.target)).getD default).r.size), .str (((mget (k := .tgt) (v := .done) b4 (Z1a a1.verb a1.target)).getD default).r.zone), .int .u64 (((mget (k := .tgt) (v := .done) b4 (Z1a a1.verb a1.target)).getD default).r.tag)]])⟩ [0, 1, 2, 3, 4, 6])
             (.ask (cond ((mget (k := .tgt) (v := .done) b4 (Z1a a1.verb a1.target)).isSome) ((Z17 a1.num (((mget (k := .tgt) (v := .done) b4 (Z1a a1.verb a1.target)).getD default).c.num)) == (0 : Int)) false)
               (.leaf .ret ⟨Z9 95 [(4, .ptr 5 0)], (.cells 89 [.map 1, .map 2, .map 3, .map 4] :: oM b1 b2 b3 b4 [.cells 44 [.int .i64 6, .int .i64 0, .str (⟨#[]⟩ : ByteArray), .int .u64 0]])⟩ [0, 1, 2, 3, 4, 6])
               (.ask (!((((Z21 a1 b1 b2 b3 b4).1).err) == (0 : Int)))
                 (.leaf .ret ⟨Z9 95 [(4, .ptr 5 0)], (.cells 89 [.map 1, .map 2, .map 3, .map 4] :: oM ((Z21 a1 b1 b2 b3 b4).2.1) ((Z21 a1 b1 b2 b3 b4).2.2.1) ((Z21 a1 b1 b2 b3 b4).2.2.2) (mset (k := .tgt) (v := .done) b4 (Z1a a1.verb a1.target) (⟨a1, (⟨(((Z21 a1 b1 b2 b3 b4).1).err), (0 : Int), (⟨#[]⟩ : ByteArray), (0 : Int)⟩ : XRes)⟩ : XDone)) [.cells 44 [.int .i64 (((Z21 a1 b1 b2 b3 b4).1).err), .int .i64 0, .str (⟨#[]⟩ : ByteArray), .int .u64 0]])⟩ [0, 1, 2, 3, 4, 6])
                 (.leaf .ret ⟨Z9 95 [(4, .ptr 5 0)], (.cells 89 [.map 1, .map 2, .map 3, .map 4] :: oM ((Z21 a1 b1 b2 b3 b4).2.1) ((Z21 a1 b1 b2 b3 b4).2.2.1) ((Z21 a1 b1 b2 b3 b4).2.2.2) (mset (k := .tgt) (v := .done) b4 (Z1a a1.verb a1.target) (⟨a1, ((Z21 a1 b1 b2 b3 b4).1)⟩ : XDone)) [.cells 44 [.int .i64 (((Z21 a1 b1 b2 b3 b4).1).err), .int .i64 (((Z21 a1 b1 b2 b3 b4).1).size), .str (((Z21 a1 b1 b2 b3 b4).1).zone), .int .u64 (((Z21 a1 b1 b2 b3 b4).1).tag)]])⟩ [0, 1, 2, 3, 4, 6])))))))))
theorem dD_DoF_tr (a1 : XCall) (b1 : List (ByteArray × Int)) (b2 : List (ByteArray × XVn)) (b3 : List (ByteArray × XSn)) (b4 : List (XTgt × XDone)) (hp0 : CS a1) : Tr Tryz.prog 5 (Z3a Tryz.f28) (Z1f Tryz.f28 [.ptr 0 0, .agg (cc a1)] (.cells 89 [.map 1, .map 2, .map 3, .map 4] :: oM b1 b2 b3 b4 [])) (Z4a Tryz.prog Tryz.f28 (.agg [.int .i64 (((Z2e a1 b1 b2 b3 b4).1).err), .int .i64 (((Z2e a1 b1 b2 b3 b4).1).size), .str (((Z2e a1 b1 b2 b3 b4).1).zone), .int .u64 (((Z2e a1 b1 b2 b3 b4).1).tag)]) (.cells 89 [.map 1, .map 2, .map 3, .map 4] :: oM ((Z2e a1 b1 b2 b3 b4).2.1) ((Z2e a1 b1 b2 b3 b4).2.2.1) ((Z2e a1 b1 b2 b3 b4).2.2.2.1) ((Z2e a1 b1 b2 b3 b4).2.2.2.2) [])) := by
 refine Z20 (kok _ _ _ _ _ _) (E := E_dD_Do) (L := Z2a) 60 9999 Z14.none (dD_DoR a1 b1 b2 b3 b4) (by kernel_rfl) (by kernel_rfl) (by kernel_rfl) ?_
 unfold dD_DoR
 refine ⟨fun h0 => ?_, fun h0 => ?_⟩
 · exact absurd h0 (by simp)
 · refine ⟨Z6 (by first | assumption | omega | ((try intro _); (try simp only [decide_eq_true_eq, decide_eq_false_iff_not, Bool.cond_false_right, Bool.cond_true_right, Bool.cond_true_left, Bool.cond_false_left, Bool.and_eq_true, Bool.or_eq_true, Bool.not_eq_true', Z35, maxLen, List.length_cons, List.length_nil, List.length_append, Z28] at *); omega)) (Z10), ?_⟩
   refine ⟨fun h1 => ?_, fun h1 => ?_⟩
   · have hF : Z2e a1 b1 b2 b3 b4 = ((⟨(2 : Int), (0 : Int), (⟨#[]⟩ : ByteArray), (0 : Int)⟩ : XRes), b1, b2, b3, b4) := by first | exact (Zb h1 rfl) | simp only [Z2e, h0, h1, cond_true, cond_false]
     exact ⟨trivial, .inl (by (try rw [hF]); kernel_rfl), by (try rw [hF]); kernel_rfl⟩
   · refine ⟨fun h2 => ?_, fun h2 => ?_⟩
     · have hF : Z2e a1 b1 b2 b3 b4 = ((⟨(7 : Int), (0 : Int), (⟨#[]⟩ : ByteArray), (0 : Int)⟩ : XRes), b1, b2, b3, b4) := by first | exact (Z5 h1 (Zb h2 rfl)) | simp only [Z2e, h0, h1, h2, cond_true, cond_false]
       exact ⟨trivial, .inl (by (try rw [hF]); kernel_rfl), by (try rw [hF]); kernel_rfl⟩
     · refine ⟨fun h3 => ?_, fun h3 => ?_⟩
       · have hF : Z2e a1 b1 b2 b3 b4 = ((⟨(9 : Int), (0 : Int), (⟨#[]⟩ : ByteArray), (0 : Int)⟩ : XRes), b1, b2, b3, b4) := by first | exact (Z5 h1 (Z5 h2 (Zb h3 rfl))) | simp only [Z2e, h0, h1, h2, h3, cond_true, cond_false]
         exact ⟨trivial, .inl (by (try rw [hF]); kernel_rfl), by (try rw [hF]); kernel_rfl⟩
       · refine ⟨fun h4 => ?_, fun h4 => ?_⟩
         · have hF : Z2e a1 b1 b2 b3 b4 = ((⟨(((mget (k := .tgt) (v := .done) b4 (Z1a a1.verb a1.target)).getD default).r.err), (((mget (k := .tgt) (v := .done) b4 (Z1a a1.verb a1.target)).getD default).r.size), ((mget (k := .tgt) (v := .done) b4 (Z1a a1.verb a1.target)).getD default).r.zone, (((mget (k := .tgt) (v := .done) b4 (Z1a a1.verb a1.target)).getD default).r.tag)⟩ : XRes), b1, b2, b3, b4) := by first | exact (Z5 h1 (Z5 h2 (Z5 h3 (Zb h4 rfl)))) | simp only [Z2e, h0, h1, h2, h3, h4, cond_true, cond_false]
           exact ⟨trivial, .inl (by (try rw [hF]); kernel_rfl), by (try rw [hF]); kernel_rfl⟩
         · refine ⟨fun h5 => ?_, fun h5 => ?_⟩
           · have hF : Z2e a1 b1 b2 b3 b4 = ((⟨(6 : Int), (0 : Int), (⟨#[]⟩ : ByteArray), (0 : Int)⟩ : XRes), b1, b2, b3, b4) := by first | exact (Z5 h1 (Z5 h2 (Z5 h3 (Z5 h4 (Zb h5 rfl))))) | simp only [Z2e, h0, h1, h2, h3, h4, h5, cond_true, cond_false]
             exact ⟨trivial, .inl (by (try rw [hF]); kernel_rfl), by (try rw [hF]); kernel_rfl⟩
           · refine ⟨fun h6 => ?_, fun h6 => ?_⟩
             · have hF : Z2e a1 b1 b2 b3 b4 = ((⟨(((Z21 a1 b1 b2 b3 b4).1).err), (0 : Int), (⟨#[]⟩ : ByteArray), (0 : Int)⟩ : XRes), (Z21 a1 b1 b2 b3 b4).2.1, (Z21 a1 b1 b2 b3 b4).2.2.1, (Z21 a1 b1 b2 b3 b4).2.2.2, (mset (k := .tgt) (v := .done) b4 (Z1a a1.verb a1.target) (⟨a1, (⟨(((Z21 a1 b1 b2 b3 b4).1).err), (0 : Int), (⟨#[]⟩ : ByteArray), (0 : Int)⟩ : XRes)⟩ : XDone))) := by first | exact (Z5 h1 (Z5 h2 (Z5 h3 (Z5 h4 (Z5 h5 (Zb h6 rfl)))))) | simp only [Z2e, h0, h1, h2, h3, h4, h5, h6, cond_true, cond_false]
               exact ⟨trivial, .inl (by (try rw [hF]); kernel_rfl), by (try rw [hF]); kernel_rfl⟩
             · have hF : Z2e a1 b1 b2 b3 b4 = (((Z21 a1 b1 b2 b3 b4).1), (Z21 a1 b1 b2 b3 b4).2.1, (Z21 a1 b1 b2 b3 b4).2.2.1, (Z21 a1 b1 b2 b3 b4).2.2.2, (mset (k := .tgt) (v := .done) b4 (Z1a a1.verb a1.target) (⟨a1, ((Z21 a1 b1 b2 b3 b4).1)⟩ : XDone))) := by first | exact (Z5 h1 (Z5 h2 (Z5 h3 (Z5 h4 (Z5 h5 (Z5 h6 rfl)))))) | simp only [Z2e, h0, h1, h2, h3, h4, h5, h6, cond_true, cond_false]
               exact ⟨trivial, .inl (by (try rw [hF]); kernel_rfl), by (try rw [hF]); kernel_rfl⟩
noncomputable def dD_Do_fact0 : Fact Tryz.prog := Z50 28 Tryz.f28 (by kernel_rfl) rfl (by kernel_rfl) [.c (.ptr 0 0), .st .call] [.cells 89 [.map 1, .map 2, .map 3, .map 4], .map .str (.int .i64), .vols, .map .str .sn, .map .tgt .done] false (fun t u => .agg [.int .i64 (((Z2e t.2.1 u.2.1 u.2.2.1 u.2.2.2.1 u.2.2.2.2.1).1).err), .int .i64 (((Z2e t.2.1 u.2.1 u.2.2.1 u.2.2.2.1 u.2.2.2.2.1).1).size), .str (((Z2e t.2.1 u.2.1 u.2.2.1 u.2.2.2.1 u.2.2.2.2.1).1).zone), .int .u64 (((Z2e t.2.1 u.2.1 u.2.2.1 u.2.2.2.1 u.2.2.2.2.1).1).tag)]) (fun t u => (.cells 89 [.map 1, .map 2, .map 3, .map 4] :: oM ((Z2e t.2.1 u.2.1 u.2.2.1 u.2.2.2.1 u.2.2.2.2.1).2.1) ((Z2e t.2.1 u.2.1 u.2.2.1 u.2.2.2.1 u.2.2.2.2.1).2.2.1) ((Z2e t.2.1 u.2.1 u.2.2.1 u.2.2.2.1 u.2.2.2.2.1).2.2.2.1) ((Z2e t.2.1 u.2.1 u.2.2.1 u.2.2.2.1 u.2.2.2.2.1).2.2.2.2) [])) (fun t u => [CS t.2.1])
 (nofun) (fun t u => by kernel_rfl) (fun t u => by kernel_rfl) (fun t u h => dD_DoF_tr t.2.1 u.2.1 u.2.2.1 u.2.2.2.1 u.2.2.2.2.1 (h _ List.mem_cons_self))
noncomputable def dD_Do_fact : Fact Tryz.prog := Z9f dD_Do_fact0 [.c (.ptr 0 0), .st .call] [.cells 89 [.map 1, .map 2, .map 3, .map 4], .map .str (.int .i64), .vols, .map .str .sn, .map .tgt .done] (fun t u => .agg [.int .i64 (((Z2e t.2.1 u.2.1 u.2.2.1 u.2.2.2.1 u.2.2.2.2.1).1).err), .int .i64 (((Z2e t.2.1 u.2.1 u.2.2.1 u.2.2.2.1 u.2.2.2.2.1).1).size), .str (((Z2e t.2.1 u.2.1 u.2.2.1 u.2.2.2.1 u.2.2.2.2.1).1).zone), .int .u64 (((Z2e t.2.1 u.2.1 u.2.2.1 u.2.2.2.1 u.2.2.2.2.1).1).tag)]) (fun t u => (.cells 89 [.map 1, .map 2, .map 3, .map 4] :: oM ((Z2e t.2.1 u.2.1 u.2.2.1 u.2.2.2.1 u.2.2.2.2.1).2.1) ((Z2e t.2.1 u.2.1 u.2.2.1 u.2.2.2.1 u.2.2.2.2.1).2.2.1) ((Z2e t.2.1 u.2.1 u.2.2.1 u.2.2.2.1 u.2.2.2.2.1).2.2.2.1) ((Z2e t.2.1 u.2.1 u.2.2.1 u.2.2.2.1 u.2.2.2.2.1).2.2.2.2) [])) (fun t u => [CS t.2.1]) rfl [0] (by
 intro t u k hk
 obtain rfl := List.mem_singleton.1 hk
 all_goals exact ⟨by decide, rfl⟩)
end Go.Proofs.YtkledlcmhbjadaaGreatDoor
