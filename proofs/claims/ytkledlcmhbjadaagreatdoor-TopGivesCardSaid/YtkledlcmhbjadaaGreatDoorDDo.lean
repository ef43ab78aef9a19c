/- The driver: calls. -/
import Derived.Test.YtkledlcmhbjadaaGreatDoorDAct
set_option linter.unusedVariables false
set_option linter.unusedSimpArgs false
set_option maxRecDepth 100000
namespace Go.Proofs.YtkledlcmhbjadaaGreatDoor
open Go Go.Eng
noncomputable def E_driver_of : Env := envOf (P := Tryz.prog) [] [] [] ckf
def driver_ofF (a0 : Int) (a1 : ByteArray) : XTgt :=
 (⟨cond (a0 == (6 : Int)) true (a0 == (7 : Int)), a1⟩ : XTgt)
def driver_ofR (a0 : Int) (a1 : ByteArray) : RT :=
 (.leaf .ret ⟨slots 13 [(4, .ptr 0 0)], [.cells 98 [.bool (cond (a0 == (6 : Int)) true (a0 == (7 : Int))), .str a1]]⟩ [])
theorem driver_ofF_tr (a0 : Int) (a1 : ByteArray)  : Tr Tryz.prog 0 (bodyOf Tryz.f45) (fnBegins Tryz.f45 [.int .u8 a0, .str a1] []) (fnEnds Tryz.prog Tryz.f45 (.agg [.bool ((driver_ofF a0 a1).snap), .str ((driver_ofF a0 a1).name)]) []) := by
 refine Tr_tree (kok _ _ _ _ _ _) (E := E_driver_of) (L := noLoops) 60 9999 LoopsOk.none (driver_ofR a0 a1) (by kernel_rfl) (by kernel_rfl) (by kernel_rfl) ?_
 unfold driver_ofR
 exact ⟨trivial, .inl (by kernel_rfl), by kernel_rfl⟩
noncomputable def driver_of_fact : Fact Tryz.prog := factOf 45 Tryz.f45 (by kernel_rfl) rfl (by kernel_rfl) [.c (.int .u8), .c (.str)] [] true (fun t u => .agg [.bool ((driver_ofF t.1 t.2.1).snap), .str ((driver_ofF t.1 t.2.1).name)]) (fun t u => []) (fun t u => [])
 (fun _ _ _ => rfl) (fun t u => by kernel_rfl) (fun t u => by kernel_rfl) (fun t u h => driver_ofF_tr t.1 t.2.1 )
noncomputable def E_cmp_isNaN_uint64 : Env := envOf (P := Tryz.prog) [] [] [] ckf
def cmp_isNaN_uint64F (a0 : Int) : Bool :=
 !(a0 == a0)
def cmp_isNaN_uint64R (a0 : Int) : RT :=
 (.leaf .ret ⟨slots 6 [(2, .bool (!(a0 == a0)))], []⟩ [])
theorem cmp_isNaN_uint64F_tr (a0 : Int)  : Tr Tryz.prog 0 (bodyOf Tryz.f53) (fnBegins Tryz.f53 [.int .u64 a0] []) (fnEnds Tryz.prog Tryz.f53 (.bool (cmp_isNaN_uint64F a0)) []) := by
 refine Tr_tree (kok _ _ _ _ _ _) (E := E_cmp_isNaN_uint64) (L := noLoops) 60 9999 LoopsOk.none (cmp_isNaN_uint64R a0) (by kernel_rfl) (by kernel_rfl) (by kernel_rfl) ?_
 unfold cmp_isNaN_uint64R
 exact ⟨trivial, .inl (by kernel_rfl), by kernel_rfl⟩
noncomputable def cmp_isNaN_uint64_fact : Fact Tryz.prog := factOf 53 Tryz.f53 (by kernel_rfl) rfl (by kernel_rfl) [.c (.int .u64)] [] true (fun t u => .bool (cmp_isNaN_uint64F t.1)) (fun t u => []) (fun t u => [])
 (fun _ _ _ => rfl) (fun t u => by kernel_rfl) (fun t u => by kernel_rfl) (fun t u h => cmp_isNaN_uint64F_tr t.1 )
noncomputable def E_cmp_Compare_uint64 : Env := envOf (P := Tryz.prog) [cmp_isNaN_uint64_fact] [] [] ckf
def cmp_Compare_uint64F (a0 : Int) (a1 : Int) : Int :=
 cond (cmp_isNaN_uint64F a0)
  (cond (cmp_isNaN_uint64F a1)
    (0 : Int)
    (-1 : Int))
  (cond (cmp_isNaN_uint64F a1)
    (1 : Int)
    (cond (decide (a0 < a1))
      (-1 : Int)
      (cond (decide (a0 > a1))
        (1 : Int)
        (0 : Int))))
def cmp_Compare_uint64R (a0 : Int) (a1 : Int) : RT :=
 (.ask (cmp_isNaN_uint64F a0)
   (.ask (cmp_isNaN_uint64F a1)
     (.leaf .ret ⟨slots 20 [(4, .int .i64 0)], []⟩ [])
     (.leaf .ret ⟨slots 20 [(4, .int .i64 (-1))], []⟩ []))
   (.ask (cmp_isNaN_uint64F a1)
     (.leaf .ret ⟨slots 20 [(4, .int .i64 1)], []⟩ [])
     (.ask (decide (a0 < a1))
       (.leaf .ret ⟨slots 20 [(4, .int .i64 (-1))], []⟩ [])
       (.ask (decide (a0 > a1))
         (.leaf .ret ⟨slots 20 [(4, .int .i64 1)], []⟩ [])
         (.leaf .ret ⟨slots 20 [(4, .int .i64 0)], []⟩ [])))))
theorem cmp_Compare_uint64F_tr (a0 : Int) (a1 : Int)  : Tr Tryz.prog 0 (bodyOf Tryz.f46) (fnBegins Tryz.f46 [.int .u64 a0, .int .u64 a1] []) (fnEnds Tryz.prog Tryz.f46 (.int .i64 (cmp_Compare_uint64F a0 a1)) []) := by
 refine Tr_tree (kok _ _ _ _ _ _) (E := E_cmp_Compare_uint64) (L := noLoops) 60 9999 LoopsOk.none (cmp_Compare_uint64R a0 a1) (by kernel_rfl) (by kernel_rfl) (by kernel_rfl) ?_
 unfold cmp_Compare_uint64R
 refine ⟨fun h0 => ?_, fun h0 => ?_⟩
 · refine ⟨fun h1 => ?_, fun h1 => ?_⟩
   · have hF : cmp_Compare_uint64F a0 a1 = (0 : Int) := by first | exact (cond_t h0 (cond_t h1 rfl)) | simp only [cmp_Compare_uint64F, h0, h1, cond_true, cond_false]
     exact ⟨trivial, .inl (by (try rw [hF]); kernel_rfl), by (try rw [hF]); kernel_rfl⟩
   · have hF : cmp_Compare_uint64F a0 a1 = (-1 : Int) := by first | exact (cond_t h0 (cond_f h1 rfl)) | simp only [cmp_Compare_uint64F, h0, h1, cond_true, cond_false]
     exact ⟨trivial, .inl (by (try rw [hF]); kernel_rfl), by (try rw [hF]); kernel_rfl⟩
 · refine ⟨fun h1 => ?_, fun h1 => ?_⟩
   · have hF : cmp_Compare_uint64F a0 a1 = (1 : Int) := by first | exact (cond_f h0 (cond_t h1 rfl)) | simp only [cmp_Compare_uint64F, h0, h1, cond_true, cond_false]
     exact ⟨trivial, .inl (by (try rw [hF]); kernel_rfl), by (try rw [hF]); kernel_rfl⟩
   · refine ⟨fun h2 => ?_, fun h2 => ?_⟩
     · have hF : cmp_Compare_uint64F a0 a1 = (-1 : Int) := by first | exact (cond_f h0 (cond_f h1 (cond_t h2 rfl))) | simp only [cmp_Compare_uint64F, h0, h1, h2, cond_true, cond_false]
       exact ⟨trivial, .inl (by (try rw [hF]); kernel_rfl), by (try rw [hF]); kernel_rfl⟩
     · refine ⟨fun h3 => ?_, fun h3 => ?_⟩
       · have hF : cmp_Compare_uint64F a0 a1 = (1 : Int) := by first | exact (cond_f h0 (cond_f h1 (cond_f h2 (cond_t h3 rfl)))) | simp only [cmp_Compare_uint64F, h0, h1, h2, h3, cond_true, cond_false]
         exact ⟨trivial, .inl (by (try rw [hF]); kernel_rfl), by (try rw [hF]); kernel_rfl⟩
       · have hF : cmp_Compare_uint64F a0 a1 = (0 : Int) := by first | exact (cond_f h0 (cond_f h1 (cond_f h2 (cond_f h3 rfl)))) | simp only [cmp_Compare_uint64F, h0, h1, h2, h3, cond_true, cond_false]
         exact ⟨trivial, .inl (by (try rw [hF]); kernel_rfl), by (try rw [hF]); kernel_rfl⟩
noncomputable def cmp_Compare_uint64_fact : Fact Tryz.prog := factOf 46 Tryz.f46 (by kernel_rfl) rfl (by kernel_rfl) [.c (.int .u64), .c (.int .u64)] [] true (fun t u => .int .i64 (cmp_Compare_uint64F t.1 t.2.1)) (fun t u => []) (fun t u => [])
 (fun _ _ _ => rfl) (fun t u => by kernel_rfl) (fun t u => by kernel_rfl) (fun t u h => cmp_Compare_uint64F_tr t.1 t.2.1 )
noncomputable def E_dD_Do : Env := envOf (P := Tryz.prog) [driver_Right_fact, driver_of_fact, cmp_Compare_uint64_fact, dD_act_fact] [] [] ckf
def dD_DoF (a1 : XCall) (b1 : List (ByteArray × Int)) (b2 : List (ByteArray × XVn)) (b3 : List (ByteArray × XSn)) (b4 : List (XTgt × XDone)) : XRes × (List (ByteArray × Int)) × (List (ByteArray × XVn)) × (List (ByteArray × XSn)) × (List (XTgt × XDone)) :=
 cond (!(driver_RightF a1))
   ((⟨(2 : Int), (0 : Int), (⟨#[]⟩ : ByteArray), (0 : Int)⟩ : XRes), b1, b2, b3, b4)
   (cond (cond (!((mget (k := .tgt) (v := .done) b4 (driver_ofF a1.verb a1.target)).isSome)) (decide ((b4.length : Int) ≥ (256 : Int))) false)
     ((⟨(7 : Int), (0 : Int), (⟨#[]⟩ : ByteArray), (0 : Int)⟩ : XRes), b1, b2, b3, b4)
     (cond (cond ((mget (k := .tgt) (v := .done) b4 (driver_ofF a1.verb a1.target)).isSome) (decide ((cmp_Compare_uint64F a1.num (((mget (k := .tgt) (v := .done) b4 (driver_ofF a1.verb a1.target)).getD default).c.num)) < (0 : Int))) false)
       ((⟨(9 : Int), (0 : Int), (⟨#[]⟩ : ByteArray), (0 : Int)⟩ : XRes), b1, b2, b3, b4)
       (cond (cond (cond ((mget (k := .tgt) (v := .done) b4 (driver_ofF a1.verb a1.target)).isSome) ((cmp_Compare_uint64F a1.num (((mget (k := .tgt) (v := .done) b4 (driver_ofF a1.verb a1.target)).getD default).c.num)) == (0 : Int)) false) (((((mget (k := .tgt) (v := .done) b4 (driver_ofF a1.verb a1.target)).getD default).c.verb) == a1.verb) && ((decide ((((mget (k := .tgt) (v := .done) b4 (driver_ofF a1.verb a1.target)).getD default).c.target) = a1.target)) && (((((mget (k := .tgt) (v := .done) b4 (driver_ofF a1.verb a1.target)).getD default).c.num) == a1.num) && (((((mget (k := .tgt) (v := .done) b4 (driver_ofF a1.verb a1.target)).getD default).c.size) == a1.size) && ((decide ((((mget (k := .tgt) (v := .done) b4 (driver_ofF a1.verb a1.target)).getD default).c.zone) = a1.zone)) && ((decide ((((mget (k := .tgt) (v := .done) b4 (driver_ofF a1.verb a1.target)).getD default).c.node) = a1.node)) && (decide ((((mget (k := .tgt) (v := .done) b4 (driver_ofF a1.verb a1.target)).getD default).c.source) = a1.source)))))))) false)
         ((⟨(((mget (k := .tgt) (v := .done) b4 (driver_ofF a1.verb a1.target)).getD default).r.err), (((mget (k := .tgt) (v := .done) b4 (driver_ofF a1.verb a1.target)).getD default).r.size), ((mget (k := .tgt) (v := .done) b4 (driver_ofF a1.verb a1.target)).getD default).r.zone, (((mget (k := .tgt) (v := .done) b4 (driver_ofF a1.verb a1.target)).getD default).r.tag)⟩ : XRes), b1, b2, b3, b4)
         (cond (cond ((mget (k := .tgt) (v := .done) b4 (driver_ofF a1.verb a1.target)).isSome) ((cmp_Compare_uint64F a1.num (((mget (k := .tgt) (v := .done) b4 (driver_ofF a1.verb a1.target)).getD default).c.num)) == (0 : Int)) false)
           ((⟨(6 : Int), (0 : Int), (⟨#[]⟩ : ByteArray), (0 : Int)⟩ : XRes), b1, b2, b3, b4)
           (cond (!((((dD_actF a1 b1 b2 b3 b4).1).err) == (0 : Int)))
             ((⟨(((dD_actF a1 b1 b2 b3 b4).1).err), (0 : Int), (⟨#[]⟩ : ByteArray), (0 : Int)⟩ : XRes), (dD_actF a1 b1 b2 b3 b4).2.1, (dD_actF a1 b1 b2 b3 b4).2.2.1, (dD_actF a1 b1 b2 b3 b4).2.2.2, (mset (k := .tgt) (v := .done) b4 (driver_ofF a1.verb a1.target) (⟨a1, (⟨(((dD_actF a1 b1 b2 b3 b4).1).err), (0 : Int), (⟨#[]⟩ : ByteArray), (0 : Int)⟩ : XRes)⟩ : XDone)))
             (((dD_actF a1 b1 b2 b3 b4).1), (dD_actF a1 b1 b2 b3 b4).2.1, (dD_actF a1 b1 b2 b3 b4).2.2.1, (dD_actF a1 b1 b2 b3 b4).2.2.2, (mset (k := .tgt) (v := .done) b4 (driver_ofF a1.verb a1.target) (⟨a1, ((dD_actF a1 b1 b2 b3 b4).1)⟩ : XDone))))))))
def dD_DoR (a1 : XCall) (b1 : List (ByteArray × Int)) (b2 : List (ByteArray × XVn)) (b3 : List (ByteArray × XSn)) (b4 : List (XTgt × XDone)) : RT :=
 (.ask false
   .fail
   (.need [CS a1]
     (.ask (!(driver_RightF a1))
       (.leaf .ret ⟨slots 95 [(4, .ptr 5 0)], (.cells 89 [.map 1, .map 2, .map 3, .map 4] :: oM b1 b2 b3 b4 [.cells 44 [.int .i64 2, .int .i64 0, .str (⟨#[]⟩ : ByteArray), .int .u64 0]])⟩ [0, 1, 2, 3, 4, 6])
       (.ask (cond (!((mget (k := .tgt) (v := .done) b4 (driver_ofF a1.verb a1.target)).isSome)) (decide ((b4.length : Int) ≥ (256 : Int))) false)
         (.leaf .ret ⟨slots 95 [(4, .ptr 5 0)], (.cells 89 [.map 1, .map 2, .map 3, .map 4] :: oM b1 b2 b3 b4 [.cells 44 [.int .i64 7, .int .i64 0, .str (⟨#[]⟩ : ByteArray), .int .u64 0]])⟩ [0, 1, 2, 3, 4, 6])
         (.ask (cond ((mget (k := .tgt) (v := .done) b4 (driver_ofF a1.verb a1.target)).isSome) (decide ((cmp_Compare_uint64F a1.num (((mget (k := .tgt) (v := .done) b4 (driver_ofF a1.verb a1.target)).getD default).c.num)) < (0 : Int))) false)
           (.leaf .ret ⟨slots 95 [(4, .ptr 5 0)], (.cells 89 [.map 1, .map 2, .map 3, .map 4] :: oM b1 b2 b3 b4 [.cells 44 [.int .i64 9, .int .i64 0, .str (⟨#[]⟩ : ByteArray), .int .u64 0]])⟩ [0, 1, 2, 3, 4, 6])
           (.ask (cond (cond ((mget (k := .tgt) (v := .done) b4 (driver_ofF a1.verb a1.target)).isSome) ((cmp_Compare_uint64F a1.num (((mget (k := .tgt) (v := .done) b4 (driver_ofF a1.verb a1.target)).getD default).c.num)) == (0 : Int)) false) (((((mget (k := .tgt) (v := .done) b4 (driver_ofF a1.verb a1.target)).getD default).c.verb) == a1.verb) && ((decide ((((mget (k := .tgt) (v := .done) b4 (driver_ofF a1.verb a1.target)).getD default).c.target) = a1.target)) && (((((mget (k := .tgt) (v := .done) b4 (driver_ofF a1.verb a1.target)).getD default).c.num) == a1.num) && (((((mget (k := .tgt) (v := .done) b4 (driver_ofF a1.verb a1.target)).getD default).c.size) == a1.size) && ((decide ((((mget (k := .tgt) (v := .done) b4 (driver_ofF a1.verb a1.target)).getD default).c.zone) = a1.zone)) && ((decide ((((mget (k := .tgt) (v := .done) b4 (driver_ofF a1.verb a1.target)).getD default).c.node) = a1.node)) && (decide ((((mget (k := .tgt) (v := .done) b4 (driver_ofF a1.verb a1.target)).getD default).c.source) = a1.source)))))))) false)
             (.leaf .ret ⟨slots 95 [(4, .ptr 5 0)], (.cells 89 [.map 1, .map 2, .map 3, .map 4] :: oM b1 b2 b3 b4 [.cells 44 [.int .i64 (((mget (k := .tgt) (v := .done) b4 (driver_ofF a1.verb a1.target)).getD default).r.err), .int .i64 (((mget (k := .tgt) (v := .done) b4 (driver_ofF a1.verb a1.target)).getD default).r.size), .str (((mget (k := .tgt) (v := .done) b4 (driver_ofF a1.verb a1.target)).getD default).r.zone), .int .u64 (((mget (k := .tgt) (v := .done) b4 (driver_ofF a1.verb a1.target)).getD default).r.tag)]])⟩ [0, 1, 2, 3, 4, 6])
             (.ask (cond ((mget (k := .tgt) (v := .done) b4 (driver_ofF a1.verb a1.target)).isSome) ((cmp_Compare_uint64F a1.num (((mget (k := .tgt) (v := .done) b4 (driver_ofF a1.verb a1.target)).getD default).c.num)) == (0 : Int)) false)
               (.leaf .ret ⟨slots 95 [(4, .ptr 5 0)], (.cells 89 [.map 1, .map 2, .map 3, .map 4] :: oM b1 b2 b3 b4 [.cells 44 [.int .i64 6, .int .i64 0, .str (⟨#[]⟩ : ByteArray), .int .u64 0]])⟩ [0, 1, 2, 3, 4, 6])
               (.ask (!((((dD_actF a1 b1 b2 b3 b4).1).err) == (0 : Int)))
                 (.leaf .ret ⟨slots 95 [(4, .ptr 5 0)], (.cells 89 [.map 1, .map 2, .map 3, .map 4] :: oM ((dD_actF a1 b1 b2 b3 b4).2.1) ((dD_actF a1 b1 b2 b3 b4).2.2.1) ((dD_actF a1 b1 b2 b3 b4).2.2.2) (mset (k := .tgt) (v := .done) b4 (driver_ofF a1.verb a1.target) (⟨a1, (⟨(((dD_actF a1 b1 b2 b3 b4).1).err), (0 : Int), (⟨#[]⟩ : ByteArray), (0 : Int)⟩ : XRes)⟩ : XDone)) [.cells 44 [.int .i64 (((dD_actF a1 b1 b2 b3 b4).1).err), .int .i64 0, .str (⟨#[]⟩ : ByteArray), .int .u64 0]])⟩ [0, 1, 2, 3, 4, 6])
                 (.leaf .ret ⟨slots 95 [(4, .ptr 5 0)], (.cells 89 [.map 1, .map 2, .map 3, .map 4] :: oM ((dD_actF a1 b1 b2 b3 b4).2.1) ((dD_actF a1 b1 b2 b3 b4).2.2.1) ((dD_actF a1 b1 b2 b3 b4).2.2.2) (mset (k := .tgt) (v := .done) b4 (driver_ofF a1.verb a1.target) (⟨a1, ((dD_actF a1 b1 b2 b3 b4).1)⟩ : XDone)) [.cells 44 [.int .i64 (((dD_actF a1 b1 b2 b3 b4).1).err), .int .i64 (((dD_actF a1 b1 b2 b3 b4).1).size), .str (((dD_actF a1 b1 b2 b3 b4).1).zone), .int .u64 (((dD_actF a1 b1 b2 b3 b4).1).tag)]])⟩ [0, 1, 2, 3, 4, 6])))))))))
theorem dD_DoF_tr (a1 : XCall) (b1 : List (ByteArray × Int)) (b2 : List (ByteArray × XVn)) (b3 : List (ByteArray × XSn)) (b4 : List (XTgt × XDone)) (hp0 : CS a1) : Tr Tryz.prog 5 (bodyOf Tryz.f28) (fnBegins Tryz.f28 [.ptr 0 0, .agg (cc a1)] (.cells 89 [.map 1, .map 2, .map 3, .map 4] :: oM b1 b2 b3 b4 [])) (fnEnds Tryz.prog Tryz.f28 (.agg [.int .i64 (((dD_DoF a1 b1 b2 b3 b4).1).err), .int .i64 (((dD_DoF a1 b1 b2 b3 b4).1).size), .str (((dD_DoF a1 b1 b2 b3 b4).1).zone), .int .u64 (((dD_DoF a1 b1 b2 b3 b4).1).tag)]) (.cells 89 [.map 1, .map 2, .map 3, .map 4] :: oM ((dD_DoF a1 b1 b2 b3 b4).2.1) ((dD_DoF a1 b1 b2 b3 b4).2.2.1) ((dD_DoF a1 b1 b2 b3 b4).2.2.2.1) ((dD_DoF a1 b1 b2 b3 b4).2.2.2.2) [])) := by
 refine Tr_tree (kok _ _ _ _ _ _) (E := E_dD_Do) (L := noLoops) 60 9999 LoopsOk.none (dD_DoR a1 b1 b2 b3 b4) (by kernel_rfl) (by kernel_rfl) (by kernel_rfl) ?_
 unfold dD_DoR
 refine ⟨fun h0 => ?_, fun h0 => ?_⟩
 · exact absurd h0 (by simp)
 · refine ⟨need_cons (by first | assumption | omega | ((try intro _); (try simp only [decide_eq_true_eq, decide_eq_false_iff_not, Bool.cond_false_right, Bool.cond_true_right, Bool.cond_true_left, Bool.cond_false_left, Bool.and_eq_true, Bool.or_eq_true, Bool.not_eq_true', bytesLim, maxLen, List.length_cons, List.length_nil, List.length_append, byteSize_lit] at *); omega)) (need_nil), ?_⟩
   refine ⟨fun h1 => ?_, fun h1 => ?_⟩
   · have hF : dD_DoF a1 b1 b2 b3 b4 = ((⟨(2 : Int), (0 : Int), (⟨#[]⟩ : ByteArray), (0 : Int)⟩ : XRes), b1, b2, b3, b4) := by first | exact (cond_t h1 rfl) | simp only [dD_DoF, h0, h1, cond_true, cond_false]
     exact ⟨trivial, .inl (by (try rw [hF]); kernel_rfl), by (try rw [hF]); kernel_rfl⟩
   · refine ⟨fun h2 => ?_, fun h2 => ?_⟩
     · have hF : dD_DoF a1 b1 b2 b3 b4 = ((⟨(7 : Int), (0 : Int), (⟨#[]⟩ : ByteArray), (0 : Int)⟩ : XRes), b1, b2, b3, b4) := by first | exact (cond_f h1 (cond_t h2 rfl)) | simp only [dD_DoF, h0, h1, h2, cond_true, cond_false]
       exact ⟨trivial, .inl (by (try rw [hF]); kernel_rfl), by (try rw [hF]); kernel_rfl⟩
     · refine ⟨fun h3 => ?_, fun h3 => ?_⟩
       · have hF : dD_DoF a1 b1 b2 b3 b4 = ((⟨(9 : Int), (0 : Int), (⟨#[]⟩ : ByteArray), (0 : Int)⟩ : XRes), b1, b2, b3, b4) := by first | exact (cond_f h1 (cond_f h2 (cond_t h3 rfl))) | simp only [dD_DoF, h0, h1, h2, h3, cond_true, cond_false]
         exact ⟨trivial, .inl (by (try rw [hF]); kernel_rfl), by (try rw [hF]); kernel_rfl⟩
       · refine ⟨fun h4 => ?_, fun h4 => ?_⟩
         · have hF : dD_DoF a1 b1 b2 b3 b4 = ((⟨(((mget (k := .tgt) (v := .done) b4 (driver_ofF a1.verb a1.target)).getD default).r.err), (((mget (k := .tgt) (v := .done) b4 (driver_ofF a1.verb a1.target)).getD default).r.size), ((mget (k := .tgt) (v := .done) b4 (driver_ofF a1.verb a1.target)).getD default).r.zone, (((mget (k := .tgt) (v := .done) b4 (driver_ofF a1.verb a1.target)).getD default).r.tag)⟩ : XRes), b1, b2, b3, b4) := by first | exact (cond_f h1 (cond_f h2 (cond_f h3 (cond_t h4 rfl)))) | simp only [dD_DoF, h0, h1, h2, h3, h4, cond_true, cond_false]
           exact ⟨trivial, .inl (by (try rw [hF]); kernel_rfl), by (try rw [hF]); kernel_rfl⟩
         · refine ⟨fun h5 => ?_, fun h5 => ?_⟩
           · have hF : dD_DoF a1 b1 b2 b3 b4 = ((⟨(6 : Int), (0 : Int), (⟨#[]⟩ : ByteArray), (0 : Int)⟩ : XRes), b1, b2, b3, b4) := by first | exact (cond_f h1 (cond_f h2 (cond_f h3 (cond_f h4 (cond_t h5 rfl))))) | simp only [dD_DoF, h0, h1, h2, h3, h4, h5, cond_true, cond_false]
             exact ⟨trivial, .inl (by (try rw [hF]); kernel_rfl), by (try rw [hF]); kernel_rfl⟩
           · refine ⟨fun h6 => ?_, fun h6 => ?_⟩
             · have hF : dD_DoF a1 b1 b2 b3 b4 = ((⟨(((dD_actF a1 b1 b2 b3 b4).1).err), (0 : Int), (⟨#[]⟩ : ByteArray), (0 : Int)⟩ : XRes), (dD_actF a1 b1 b2 b3 b4).2.1, (dD_actF a1 b1 b2 b3 b4).2.2.1, (dD_actF a1 b1 b2 b3 b4).2.2.2, (mset (k := .tgt) (v := .done) b4 (driver_ofF a1.verb a1.target) (⟨a1, (⟨(((dD_actF a1 b1 b2 b3 b4).1).err), (0 : Int), (⟨#[]⟩ : ByteArray), (0 : Int)⟩ : XRes)⟩ : XDone))) := by first | exact (cond_f h1 (cond_f h2 (cond_f h3 (cond_f h4 (cond_f h5 (cond_t h6 rfl)))))) | simp only [dD_DoF, h0, h1, h2, h3, h4, h5, h6, cond_true, cond_false]
               exact ⟨trivial, .inl (by (try rw [hF]); kernel_rfl), by (try rw [hF]); kernel_rfl⟩
             · have hF : dD_DoF a1 b1 b2 b3 b4 = (((dD_actF a1 b1 b2 b3 b4).1), (dD_actF a1 b1 b2 b3 b4).2.1, (dD_actF a1 b1 b2 b3 b4).2.2.1, (dD_actF a1 b1 b2 b3 b4).2.2.2, (mset (k := .tgt) (v := .done) b4 (driver_ofF a1.verb a1.target) (⟨a1, ((dD_actF a1 b1 b2 b3 b4).1)⟩ : XDone))) := by first | exact (cond_f h1 (cond_f h2 (cond_f h3 (cond_f h4 (cond_f h5 (cond_f h6 rfl)))))) | simp only [dD_DoF, h0, h1, h2, h3, h4, h5, h6, cond_true, cond_false]
               exact ⟨trivial, .inl (by (try rw [hF]); kernel_rfl), by (try rw [hF]); kernel_rfl⟩
noncomputable def dD_Do_fact0 : Fact Tryz.prog := factOf 28 Tryz.f28 (by kernel_rfl) rfl (by kernel_rfl) [.c (.ptr 0 0), .st .call] [.cells 89 [.map 1, .map 2, .map 3, .map 4], .map .str (.int .i64), .vols, .map .str .sn, .map .tgt .done] false (fun t u => .agg [.int .i64 (((dD_DoF t.2.1 u.2.1 u.2.2.1 u.2.2.2.1 u.2.2.2.2.1).1).err), .int .i64 (((dD_DoF t.2.1 u.2.1 u.2.2.1 u.2.2.2.1 u.2.2.2.2.1).1).size), .str (((dD_DoF t.2.1 u.2.1 u.2.2.1 u.2.2.2.1 u.2.2.2.2.1).1).zone), .int .u64 (((dD_DoF t.2.1 u.2.1 u.2.2.1 u.2.2.2.1 u.2.2.2.2.1).1).tag)]) (fun t u => (.cells 89 [.map 1, .map 2, .map 3, .map 4] :: oM ((dD_DoF t.2.1 u.2.1 u.2.2.1 u.2.2.2.1 u.2.2.2.2.1).2.1) ((dD_DoF t.2.1 u.2.1 u.2.2.1 u.2.2.2.1 u.2.2.2.2.1).2.2.1) ((dD_DoF t.2.1 u.2.1 u.2.2.1 u.2.2.2.1 u.2.2.2.2.1).2.2.2.1) ((dD_DoF t.2.1 u.2.1 u.2.2.1 u.2.2.2.1 u.2.2.2.2.1).2.2.2.2) [])) (fun t u => [CS t.2.1])
 (nofun) (fun t u => by kernel_rfl) (fun t u => by kernel_rfl) (fun t u h => dD_DoF_tr t.2.1 u.2.1 u.2.2.1 u.2.2.2.1 u.2.2.2.2.1 (h _ List.mem_cons_self))
noncomputable def dD_Do_fact : Fact Tryz.prog := factThin dD_Do_fact0 [.c (.ptr 0 0), .st .call] [.cells 89 [.map 1, .map 2, .map 3, .map 4], .map .str (.int .i64), .vols, .map .str .sn, .map .tgt .done] (fun t u => .agg [.int .i64 (((dD_DoF t.2.1 u.2.1 u.2.2.1 u.2.2.2.1 u.2.2.2.2.1).1).err), .int .i64 (((dD_DoF t.2.1 u.2.1 u.2.2.1 u.2.2.2.1 u.2.2.2.2.1).1).size), .str (((dD_DoF t.2.1 u.2.1 u.2.2.1 u.2.2.2.1 u.2.2.2.2.1).1).zone), .int .u64 (((dD_DoF t.2.1 u.2.1 u.2.2.1 u.2.2.2.1 u.2.2.2.2.1).1).tag)]) (fun t u => (.cells 89 [.map 1, .map 2, .map 3, .map 4] :: oM ((dD_DoF t.2.1 u.2.1 u.2.2.1 u.2.2.2.1 u.2.2.2.2.1).2.1) ((dD_DoF t.2.1 u.2.1 u.2.2.1 u.2.2.2.1 u.2.2.2.2.1).2.2.1) ((dD_DoF t.2.1 u.2.1 u.2.2.1 u.2.2.2.1 u.2.2.2.2.1).2.2.2.1) ((dD_DoF t.2.1 u.2.1 u.2.2.1 u.2.2.2.1 u.2.2.2.2.1).2.2.2.2) [])) (fun t u => [CS t.2.1]) rfl [0] (by
 intro t u k hk
 obtain rfl := List.mem_singleton.1 hk
 all_goals exact ⟨by decide, rfl⟩)
noncomputable def E_dD_Room : Env := envOf (P := Tryz.prog) [] [] [] ckf
def dD_RoomF (a1 : ByteArray) (b1 : List (ByteArray × Int)) (b2 : List (ByteArray × XVn)) (b3 : List (ByteArray × XSn)) (b4 : List (XTgt × XDone)) : Int × Bool :=
 (((mget (k := .str) (v := (.int .i64)) b1 a1).getD default), (mget (k := .str) (v := (.int .i64)) b1 a1).isSome)
def dD_RoomR (a1 : ByteArray) (b1 : List (ByteArray × Int)) (b2 : List (ByteArray × XVn)) (b3 : List (ByteArray × XSn)) (b4 : List (XTgt × XDone)) : RT :=
 (.ask false
   .fail
   (.leaf .ret ⟨slots 21 [(4, .int .i64 ((mget (k := .str) (v := (.int .i64)) b1 a1).getD default)), (5, .bool ((mget (k := .str) (v := (.int .i64)) b1 a1).isSome))], (.cells 89 [.map 1, .map 2, .map 3, .map 4] :: oM b1 b2 b3 b4 [])⟩ []))
theorem dD_RoomF_tr (a1 : ByteArray) (b1 : List (ByteArray × Int)) (b2 : List (ByteArray × XVn)) (b3 : List (ByteArray × XSn)) (b4 : List (XTgt × XDone))  : Tr Tryz.prog 5 (bodyOf Tryz.f36) (fnBegins Tryz.f36 [.ptr 0 0, .str a1] (.cells 89 [.map 1, .map 2, .map 3, .map 4] :: oM b1 b2 b3 b4 [])) (fnEnds Tryz.prog Tryz.f36 (.tup [.int .i64 ((dD_RoomF a1 b1 b2 b3 b4).1), .bool ((dD_RoomF a1 b1 b2 b3 b4).2)]) (.cells 89 [.map 1, .map 2, .map 3, .map 4] :: oM b1 b2 b3 b4 [])) := by
 refine Tr_tree (kok _ _ _ _ _ _) (E := E_dD_Room) (L := noLoops) 60 9999 LoopsOk.none (dD_RoomR a1 b1 b2 b3 b4) (by kernel_rfl) (by kernel_rfl) (by kernel_rfl) ?_
 unfold dD_RoomR
 refine ⟨fun h0 => ?_, fun h0 => ?_⟩
 · exact absurd h0 (by simp)
 · have hF : dD_RoomF a1 b1 b2 b3 b4 = (((mget (k := .str) (v := (.int .i64)) b1 a1).getD default), (mget (k := .str) (v := (.int .i64)) b1 a1).isSome) := by first | exact rfl | simp only [dD_RoomF, h0, cond_true, cond_false]
   exact ⟨trivial, .inl (by (try rw [hF]); kernel_rfl), by (try rw [hF]); kernel_rfl⟩
noncomputable def dD_Room_fact : Fact Tryz.prog := factOf 36 Tryz.f36 (by kernel_rfl) rfl (by kernel_rfl) [.c (.ptr 0 0), .c (.str)] [.cells 89 [.map 1, .map 2, .map 3, .map 4], .map .str (.int .i64), .vols, .map .str .sn, .map .tgt .done] true (fun t u => .tup [.int .i64 ((dD_RoomF t.2.1 u.2.1 u.2.2.1 u.2.2.2.1 u.2.2.2.2.1).1), .bool ((dD_RoomF t.2.1 u.2.1 u.2.2.1 u.2.2.2.1 u.2.2.2.2.1).2)]) (fun t u => HPL.enc _ u) (fun t u => [])
 (fun _ _ _ => rfl) (fun t u => by kernel_rfl) (fun t u => by kernel_rfl) (fun t u h => dD_RoomF_tr t.2.1 u.2.1 u.2.2.1 u.2.2.2.1 u.2.2.2.2.1 )
end Go.Proofs.YtkledlcmhbjadaaGreatDoor
