/- The driver: what a call does. -/
import Derived.Test.YtkledlcmhbjadaaGreatDoorDName
set_option linter.unusedVariables false
set_option linter.unusedSimpArgs false
set_option maxRecDepth 100000
namespace Go.Proofs.YtkledlcmhbjadaaGreatDoor
open Go Go.Eng
noncomputable def E_dD_source : Env := Z57 (P := Tryz.prog) [] [] [] ckf
def Z46 (a1 : ByteArray) (b1 : List (ByteArray × Int)) (b2 : List (ByteArray × XVn)) (b3 : List (ByteArray × XSn)) (b4 : List (XTgt × XDone)) : XSn × Int :=
 cond (decide (a1 = (⟨#[]⟩ : ByteArray)))
  ((⟨(0 : Int), (0 : Int)⟩ : XSn), (0 : Int))
  (cond ((mget (k := .str) (v := .sn) b3 a1).isSome)
    (((mget (k := .str) (v := .sn) b3 a1).getD default), (0 : Int))
    (cond ((vget b2 a1).isSome)
      ((⟨(((vget b2 a1).getD default).size), (((vget b2 a1).getD default).tag)⟩ : XSn), (0 : Int))
      ((⟨(0 : Int), (0 : Int)⟩ : XSn), (5 : Int))))
def dD_sourceR (a1 : ByteArray) (b1 : List (ByteArray × Int)) (b2 : List (ByteArray × XVn)) (b3 : List (ByteArray × XSn)) (b4 : List (XTgt × XDone)) : RT :=
 (.ask (decide (a1 = (⟨#[]⟩ : ByteArray)))
   (.leaf .ret ⟨Z9 40 [(4, .ptr 5 0), (5, .int .i64 0)], (.cells 89 [.map 1, .map 2, .map 3, .map 4] :: oM b1 b2 b3 b4 [.cells 131 [.int .i64 0, .int .u64 0]])⟩ [])
   (.ask ((mget (k := .str) (v := .sn) b3 a1).isSome)
     (.leaf .ret ⟨Z9 40 [(4, .ptr 5 0), (5, .int .i64 0)], (.cells 89 [.map 1, .map 2, .map 3, .map 4] :: oM b1 b2 b3 b4 [.cells 131 [.int .i64 (((mget (k := .str) (v := .sn) b3 a1).getD default).size), .int .u64 (((mget (k := .str) (v := .sn) b3 a1).getD default).tag)]])⟩ [])
     (.ask ((vget b2 a1).isSome)
       (.leaf .ret ⟨Z9 40 [(4, .ptr 5 0), (5, .int .i64 0)], (.cells 89 [.map 1, .map 2, .map 3, .map 4] :: oM b1 b2 b3 b4 [.cells 131 [.int .i64 (((vget b2 a1).getD default).size), .int .u64 (((vget b2 a1).getD default).tag)]])⟩ [])
       (.leaf .ret ⟨Z9 40 [(4, .ptr 5 0), (5, .int .i64 5)], (.cells 89 [.map 1, .map 2, .map 3, .map 4] :: oM b1 b2 b3 b4 [.cells 131 [.int .i64 0, .int .u64 0]])⟩ []))))
theorem dD_sourceF_tr (a1 : ByteArray) (b1 : List (ByteArray × Int)) (b2 : List (ByteArray × XVn)) (b3 : List (ByteArray × XSn)) (b4 : List (XTgt × XDone))  : Tr Tryz.prog 5 (Z3a Tryz.f67) (Z1f Tryz.f67 [.ptr 0 0, .str a1] (.cells 89 [.map 1, .map 2, .map 3, .map 4] :: oM b1 b2 b3 b4 [])) (Z4a Tryz.prog Tryz.f67 (.tup [.agg [.int .i64 (((Z46 a1 b1 b2 b3 b4).1).size), .int .u64 (((Z46 a1 b1 b2 b3 b4).1).tag)], .int .i64 ((Z46 a1 b1 b2 b3 b4).2)]) (.cells 89 [.map 1, .map 2, .map 3, .map 4] :: oM b1 b2 b3 b4 [])) := by
 refine Z20 (kok _ _ _ _ _ _) (E := E_dD_source) (L := Z2a) 60 9999 Z14.none (dD_sourceR a1 b1 b2 b3 b4) (by kernel_rfl) (by kernel_rfl) (by kernel_rfl) ?_
 unfold dD_sourceR
 refine ⟨fun h0 => ?_, fun h0 => ?_⟩
 · have hF : Z46 a1 b1 b2 b3 b4 = ((⟨(0 : Int), (0 : Int)⟩ : XSn), (0 : Int)) := by first | exact (Zb h0 rfl) | simp only [Z46, h0, cond_true, cond_false]
   exact ⟨trivial, .inl (by (try rw [hF]); kernel_rfl), by (try rw [hF]); kernel_rfl⟩
 · refine ⟨fun h1 => ?_, fun h1 => ?_⟩
   · have hF : Z46 a1 b1 b2 b3 b4 = (((mget (k := .str) (v := .sn) b3 a1).getD default), (0 : Int)) := by first | exact (Z5 h0 (Zb h1 rfl)) | simp only [Z46, h0, h1, cond_true, cond_false]
     exact ⟨trivial, .inl (by (try rw [hF]); kernel_rfl), by (try rw [hF]); kernel_rfl⟩
   · refine ⟨fun h2 => ?_, fun h2 => ?_⟩
     · have hF : Z46 a1 b1 b2 b3 b4 = ((⟨(((vget b2 a1).getD default).size), (((vget b2 a1).getD default).tag)⟩ : XSn), (0 : Int)) := by first | exact (Z5 h0 (Z5 h1 (Zb h2 rfl))) | simp only [Z46, h0, h1, h2, cond_true, cond_false]
       exact ⟨trivial, .inl (by (try rw [hF]); kernel_rfl), by (try rw [hF]); kernel_rfl⟩
     · have hF : Z46 a1 b1 b2 b3 b4 = ((⟨(0 : Int), (0 : Int)⟩ : XSn), (5 : Int)) := by first | exact (Z5 h0 (Z5 h1 (Z5 h2 rfl))) | simp only [Z46, h0, h1, h2, cond_true, cond_false]
       exact ⟨trivial, .inl (by (try rw [hF]); kernel_rfl), by (try rw [hF]); kernel_rfl⟩
noncomputable def dD_source_fact : Fact Tryz.prog := Z50 67 Tryz.f67 (by kernel_rfl) rfl (by kernel_rfl) [.c (.ptr 0 0), .c (.str)] [.cells 89 [.map 1, .map 2, .map 3, .map 4], .map .str (.int .i64), .vols, .map .str .sn, .map .tgt .done] true (fun t u => .tup [.agg [.int .i64 (((Z46 t.2.1 u.2.1 u.2.2.1 u.2.2.2.1 u.2.2.2.2.1).1).size), .int .u64 (((Z46 t.2.1 u.2.1 u.2.2.1 u.2.2.2.1 u.2.2.2.2.1).1).tag)], .int .i64 ((Z46 t.2.1 u.2.1 u.2.2.1 u.2.2.2.1 u.2.2.2.2.1).2)]) (fun t u => HPL.enc _ u) (fun t u => [])
 (fun _ _ _ => rfl) (fun t u => by kernel_rfl) (fun t u => by kernel_rfl) (fun t u h => dD_sourceF_tr t.2.1 u.2.1 u.2.2.1 u.2.2.2.1 u.2.2.2.2.1 )
noncomputable def E_dD_create : Env := Z57 (P := Tryz.prog) [dD_source_fact] [] [] ckf
def Z1e (a1 : XCall) (b1 : List (ByteArray × Int)) (b2 : List (ByteArray × XVn)) (b3 : List (ByteArray × XSn)) (b4 : List (XTgt × XDone)) : XRes × (List (ByteArray × Int)) × (List (ByteArray × XVn)) :=
 cond ((vget b2 a1.target).isSome)
  (cond (decide ((((vget b2 a1.target).getD default).size) < a1.size))
    ((⟨(12 : Int), (0 : Int), (⟨#[]⟩ : ByteArray), (0 : Int)⟩ : XRes), b1, b2)
    ((⟨(0 : Int), (((vget b2 a1.target).getD default).size), ((vget b2 a1.target).getD default).zone, (((vget b2 a1.target).getD default).tag)⟩ : XRes), b1, b2))
  (cond (!((mget (k := .str) (v := (.int .i64)) b1 a1.zone).isSome))
    ((⟨(5 : Int), (0 : Int), (⟨#[]⟩ : ByteArray), (0 : Int)⟩ : XRes), b1, b2)
    (cond (!(((Z46 a1.source b1 b2 b3 b4).2) == (0 : Int)))
      ((⟨((Z46 a1.source b1 b2 b3 b4).2), (0 : Int), (⟨#[]⟩ : ByteArray), (0 : Int)⟩ : XRes), b1, b2)
      (cond (decide ((((Z46 a1.source b1 b2 b3 b4).1).size) > a1.size))
        ((⟨(12 : Int), (0 : Int), (⟨#[]⟩ : ByteArray), (0 : Int)⟩ : XRes), b1, b2)
        (cond (decide ((b2.length : Int) ≥ (64 : Int)))
          ((⟨(7 : Int), (0 : Int), (⟨#[]⟩ : ByteArray), (0 : Int)⟩ : XRes), b1, b2)
          (cond (decide (((mget (k := .str) (v := (.int .i64)) b1 a1.zone).getD default) < a1.size))
            ((⟨(11 : Int), (0 : Int), (⟨#[]⟩ : ByteArray), (0 : Int)⟩ : XRes), b1, b2)
            ((⟨(0 : Int), a1.size, a1.zone, (((Z46 a1.source b1 b2 b3 b4).1).tag)⟩ : XRes), (mset (k := .str) (v := (.int .i64)) b1 a1.zone (IntKind.i64.wrap (((mget (k := .str) (v := (.int .i64)) b1 a1.zone).getD default) - a1.size))), (vset b2 a1.target ⟨a1.size, a1.zone, (((Z46 a1.source b1 b2 b3 b4).1).tag), []⟩)))))))
def dD_createR (a1 : XCall) (b1 : List (ByteArray × Int)) (b2 : List (ByteArray × XVn)) (b3 : List (ByteArray × XSn)) (b4 : List (XTgt × XDone)) : RT :=
 (.ask ((vget b2 a1.target).isSome)
   (.ask (decide ((((vget b2 a1.target).getD default).size) < a1.size))
     (.leaf .ret ⟨Z9 112 [(4, .ptr 5 0)], (.cells 89 [.map 1, .map 2, .map 3, .map 4] :: oM b1 b2 b3 b4 [.cells 44 [.int .i64 12, .int .i64 0, .str (⟨#[]⟩ : ByteArray), .int .u64 0]])⟩ [0, 1, 2, 3, 4, 6])
     (.leaf .ret ⟨Z9 112 [(4, .ptr 5 0)], (.cells 89 [.map 1, .map 2, .map 3, .map 4] :: oM b1 b2 b3 b4 [.cells 44 [.int .i64 0, .int .i64 (((vget b2 a1.target).getD default).size), .str (((vget b2 a1.target).getD default).zone), .int .u64 (((vget b2 a1.target).getD default).tag)]])⟩ [0, 1, 2, 3, 4, 6]))
   (.ask (!((mget (k := .str) (v := (.int .i64)) b1 a1.zone).isSome))
     (.leaf .ret ⟨Z9 112 [(4, .ptr 5 0)], (.cells 89 [.map 1, .map 2, .map 3, .map 4] :: oM b1 b2 b3 b4 [.cells 44 [.int .i64 5, .int .i64 0, .str (⟨#[]⟩ : ByteArray), .int .u64 0]])⟩ [0, 1, 2, 3, 4, 6])
     (.ask (!(((Z46 a1.source b1 b2 b3 b4).2) == (0 : Int)))
       (.leaf .ret ⟨Z9 112 [(4, .ptr 5 0)], (.cells 89 [.map 1, .map 2, .map 3, .map 4] :: oM b1 b2 b3 b4 [.cells 44 [.int .i64 ((Z46 a1.source b1 b2 b3 b4).2), .int .i64 0, .str (⟨#[]⟩ : ByteArray), .int .u64 0]])⟩ [0, 1, 2, 3, 4, 6])
       (.ask (decide ((((Z46 a1.source b1 b2 b3 b4).1).size) > a1.size))
         (.leaf .ret ⟨Z9 112 [(4, .ptr 5 0)], (.cells 89 [.map 1, .map 2, .map 3, .map 4] :: oM b1 b2 b3 b4 [.cells 44 [.int .i64 12, .int .i64 0, .str (⟨#[]⟩ : ByteArray), .int .u64 0]])⟩ [0, 1, 2, 3, 4, 6])
         (.ask (decide ((b2.length : Int) ≥ (64 : Int)))
           (.leaf .ret ⟨Z9 112 [(4, .ptr 5 0)], (.cells 89 [.map 1, .map 2, .map 3, .map 4] :: oM b1 b2 b3 b4 [.cells 44 [.int .i64 7, .int .i64 0, .str (⟨#[]⟩ : ByteArray), .int .u64 0]])⟩ [0, 1, 2, 3, 4, 6])
           (.ask (decide (((mget (k := .str) (v := (.int .i64)) b1 a1.zone).getD default) < a1.size))
             (.leaf .ret ⟨Z9 112 [(4, .ptr 5 0)], (.cells 89 [.map 1, .map 2, .map 3, .map 4] :: oM b1 b2 b3 b4 [.cells 44 [.int .i64 11, .int .i64 0, .str (⟨#[]⟩ : ByteArray), .int .u64 0]])⟩ [0, 1, 2, 3, 4, 6])
             (.leaf .ret ⟨Z9 112 [(4, .ptr 5 0)], (.cells 89 [.map 1, .map 2, .map 3, .map 4] :: oM (mset (k := .str) (v := (.int .i64)) b1 a1.zone (IntKind.i64.wrap (((mget (k := .str) (v := (.int .i64)) b1 a1.zone).getD default) - a1.size))) (vset b2 a1.target ⟨a1.size, a1.zone, (((Z46 a1.source b1 b2 b3 b4).1).tag), []⟩) b3 b4 [.cells 44 [.int .i64 0, .int .i64 a1.size, .str a1.zone, .int .u64 (((Z46 a1.source b1 b2 b3 b4).1).tag)]])⟩ [0, 1, 2, 3, 4, 6])))))))
theorem dD_createF_tr (a1 : XCall) (b1 : List (ByteArray × Int)) (b2 : List (ByteArray × XVn)) (b3 : List (ByteArray × XSn)) (b4 : List (XTgt × XDone))  : Tr Tryz.prog 5 (Z3a Tryz.f54) (Z1f Tryz.f54 [.ptr 0 0, .agg (cc a1)] (.cells 89 [.map 1, .map 2, .map 3, .map 4] :: oM b1 b2 b3 b4 [])) (Z4a Tryz.prog Tryz.f54 (.agg [.int .i64 (((Z1e a1 b1 b2 b3 b4).1).err), .int .i64 (((Z1e a1 b1 b2 b3 b4).1).size), .str (((Z1e a1 b1 b2 b3 b4).1).zone), .int .u64 (((Z1e a1 b1 b2 b3 b4).1).tag)]) (.cells 89 [.map 1, .map 2, .map 3, .map 4] :: oM ((Z1e a1 b1 b2 b3 b4).2.1) ((Z1e a1 b1 b2 b3 b4).2.2) b3 b4 [])) := by
 refine Z20 (kok _ _ _ _ _ _) (E := E_dD_create) (L := Z2a) 60 9999 Z14.none (dD_createR a1 b1 b2 b3 b4) (by kernel_rfl) (by kernel_rfl) (by kernel_rfl) ?_
 unfold dD_createR
 refine ⟨fun h0 => ?_, fun h0 => ?_⟩
 · refine ⟨fun h1 => ?_, fun h1 => ?_⟩
   · have hF : Z1e a1 b1 b2 b3 b4 = ((⟨(12 : Int), (0 : Int), (⟨#[]⟩ : ByteArray), (0 : Int)⟩ : XRes), b1, b2) := by first | exact (Zb h0 (Zb h1 rfl)) | simp only [Z1e, h0, h1, cond_true, cond_false]
     exact ⟨trivial, .inl (by (try rw [hF]); kernel_rfl), by (try rw [hF]); kernel_rfl⟩
   · have hF : Z1e a1 b1 b2 b3 b4 = ((⟨(0 : Int), (((vget b2 a1.target).getD default).size), ((vget b2 a1.target).getD default).zone, (((vget b2 a1.target).getD default).tag)⟩ : XRes), b1, b2) := by first | exact (Zb h0 (Z5 h1 rfl)) | simp only [Z1e, h0, h1, cond_true, cond_false]
     exact ⟨trivial, .inl (by (try rw [hF]); kernel_rfl), by (try rw [hF]); kernel_rfl⟩
 · refine ⟨fun h1 => ?_, fun h1 => ?_⟩
   · have hF : Z1e a1 b1 b2 b3 b4 = ((⟨(5 : Int), (0 : Int), (⟨#[]⟩ : ByteArray), (0 : Int)⟩ : XRes), b1, b2) := by first | exact (Z5 h0 (Zb h1 rfl)) | simp only [Z1e, h0, h1, cond_true, cond_false]
     exact ⟨trivial, .inl (by (try rw [hF]); kernel_rfl), by (try rw [hF]); kernel_rfl⟩
   · refine ⟨fun h2 => ?_, fun h2 => ?_⟩
     · have hF : Z1e a1 b1 b2 b3 b4 = ((⟨((Z46 a1.source b1 b2 b3 b4).2), (0 : Int), (⟨#[]⟩ : ByteArray), (0 : Int)⟩ : XRes), b1, b2) := by first | exact (Z5 h0 (Z5 h1 (Zb h2 rfl))) | simp only [Z1e, h0, h1, h2, cond_true, cond_false]
       exact ⟨trivial, .inl (by (try rw [hF]); kernel_rfl), by (try rw [hF]); kernel_rfl⟩
     · refine ⟨fun h3 => ?_, fun h3 => ?_⟩
       · have hF : Z1e a1 b1 b2 b3 b4 = ((⟨(12 : Int), (0 : Int), (⟨#[]⟩ : ByteArray), (0 : Int)⟩ : XRes), b1, b2) := by first | exact (Z5 h0 (Z5 h1 (Z5 h2 (Zb h3 rfl)))) | simp only [Z1e, h0, h1, h2, h3, cond_true, cond_false]
         exact ⟨trivial, .inl (by (try rw [hF]); kernel_rfl), by (try rw [hF]); kernel_rfl⟩
       · refine ⟨fun h4 => ?_, fun h4 => ?_⟩
         · have hF : Z1e a1 b1 b2 b3 b4 = ((⟨(7 : Int), (0 : Int), (⟨#[]⟩ : ByteArray), (0 : Int)⟩ : XRes), b1, b2) := by first | exact (Z5 h0 (Z5 h1 (Z5 h2 (Z5 h3 (Zb h4 rfl))))) | simp only [Z1e, h0, h1, h2, h3, h4, cond_true, cond_false]
           exact ⟨trivial, .inl (by (try rw [hF]); kernel_rfl), by (try rw [hF]); kernel_rfl⟩
         · refine ⟨fun h5 => ?_, fun h5 => ?_⟩
           · have hF : Z1e a1 b1 b2 b3 b4 = ((⟨(11 : Int), (0 : Int), (⟨#[]⟩ : ByteArray), (0 : Int)⟩ : XRes), b1, b2) := by first | exact (Z5 h0 (Z5 h1 (Z5 h2 (Z5 h3 (Z5 h4 (Zb h5 rfl)))))) | simp only [Z1e, h0, h1, h2, h3, h4, h5, cond_true, cond_false]
             exact ⟨trivial, .inl (by (try rw [hF]); kernel_rfl), by (try rw [hF]); kernel_rfl⟩
           · have hF : Z1e a1 b1 b2 b3 b4 = ((⟨(0 : Int), a1.size, a1.zone, (((Z46 a1.source b1 b2 b3 b4).1).tag)⟩ : XRes), (mset (k := .str) (v := (.int .i64)) b1 a1.zone (IntKind.i64.wrap (((mget (k := .str) (v := (.int .i64)) b1 a1.zone).getD default) - a1.size))), (vset b2 a1.target ⟨a1.size, a1.zone, (((Z46 a1.source b1 b2 b3 b4).1).tag), []⟩)) := by first | exact (Z5 h0 (Z5 h1 (Z5 h2 (Z5 h3 (Z5 h4 (Z5 h5 rfl)))))) | simp only [Z1e, h0, h1, h2, h3, h4, h5, cond_true, cond_false]
             exact ⟨trivial, .inl (by (try rw [hF]); kernel_rfl), by (try rw [hF]); kernel_rfl⟩
noncomputable def dD_create_fact0 : Fact Tryz.prog := Z50 54 Tryz.f54 (by kernel_rfl) rfl (by kernel_rfl) [.c (.ptr 0 0), .st .call] [.cells 89 [.map 1, .map 2, .map 3, .map 4], .map .str (.int .i64), .vols, .map .str .sn, .map .tgt .done] false (fun t u => .agg [.int .i64 (((Z1e t.2.1 u.2.1 u.2.2.1 u.2.2.2.1 u.2.2.2.2.1).1).err), .int .i64 (((Z1e t.2.1 u.2.1 u.2.2.1 u.2.2.2.1 u.2.2.2.2.1).1).size), .str (((Z1e t.2.1 u.2.1 u.2.2.1 u.2.2.2.1 u.2.2.2.2.1).1).zone), .int .u64 (((Z1e t.2.1 u.2.1 u.2.2.1 u.2.2.2.1 u.2.2.2.2.1).1).tag)]) (fun t u => (.cells 89 [.map 1, .map 2, .map 3, .map 4] :: oM ((Z1e t.2.1 u.2.1 u.2.2.1 u.2.2.2.1 u.2.2.2.2.1).2.1) ((Z1e t.2.1 u.2.1 u.2.2.1 u.2.2.2.1 u.2.2.2.2.1).2.2) (u.2.2.2.1) (u.2.2.2.2.1) [])) (fun t u => [])
 (nofun) (fun t u => by kernel_rfl) (fun t u => by kernel_rfl) (fun t u h => dD_createF_tr t.2.1 u.2.1 u.2.2.1 u.2.2.2.1 u.2.2.2.2.1 )
noncomputable def dD_create_fact : Fact Tryz.prog := Z9f dD_create_fact0 [.c (.ptr 0 0), .st .call] [.cells 89 [.map 1, .map 2, .map 3, .map 4], .map .str (.int .i64), .vols, .map .str .sn, .map .tgt .done] (fun t u => .agg [.int .i64 (((Z1e t.2.1 u.2.1 u.2.2.1 u.2.2.2.1 u.2.2.2.2.1).1).err), .int .i64 (((Z1e t.2.1 u.2.1 u.2.2.1 u.2.2.2.1 u.2.2.2.2.1).1).size), .str (((Z1e t.2.1 u.2.1 u.2.2.1 u.2.2.2.1 u.2.2.2.2.1).1).zone), .int .u64 (((Z1e t.2.1 u.2.1 u.2.2.1 u.2.2.2.1 u.2.2.2.2.1).1).tag)]) (fun t u => (.cells 89 [.map 1, .map 2, .map 3, .map 4] :: oM ((Z1e t.2.1 u.2.1 u.2.2.1 u.2.2.2.1 u.2.2.2.2.1).2.1) ((Z1e t.2.1 u.2.1 u.2.2.1 u.2.2.2.1 u.2.2.2.2.1).2.2) (u.2.2.2.1) (u.2.2.2.2.1) [])) (fun t u => []) rfl [0, 3, 4] (by
 intro t u k hk
 simp only [List.mem_cons, List.not_mem_nil, or_false] at hk
 rcases hk with rfl | rfl | rfl
 all_goals exact ⟨by decide, rfl⟩)
noncomputable def E_dD_expand : Env := Z57 (P := Tryz.prog) [] [] [] ckf
def Z2f (a1 : XCall) (b1 : List (ByteArray × Int)) (b2 : List (ByteArray × XVn)) (b3 : List (ByteArray × XSn)) (b4 : List (XTgt × XDone)) : XRes × (List (ByteArray × Int)) × (List (ByteArray × XVn)) :=
 cond (!((vget b2 a1.target).isSome))
  ((⟨(5 : Int), (0 : Int), (⟨#[]⟩ : ByteArray), (0 : Int)⟩ : XRes), b1, b2)
  (cond (decide ((IntKind.i64.wrap (a1.size - (((vget b2 a1.target).getD default).size))) > (0 : Int)))
    (cond (decide (((mget (k := .str) (v := (.int .i64)) b1 (((vget b2 a1.target).getD default).zone)).getD default) < (IntKind.i64.wrap (a1.size - (((vget b2 a1.target).getD default).size)))))
      ((⟨(11 : Int), (0 : Int), (⟨#[]⟩ : ByteArray), (0 : Int)⟩ : XRes), b1, b2)
      ((⟨(0 : Int), a1.size, (⟨#[]⟩ : ByteArray), (0 : Int)⟩ : XRes), (mset (k := .str) (v := (.int .i64)) b1 (((vget b2 a1.target).getD default).zone) (IntKind.i64.wrap (((mget (k := .str) (v := (.int .i64)) b1 (((vget b2 a1.target).getD default).zone)).getD default) - (IntKind.i64.wrap (a1.size - (((vget b2 a1.target).getD default).size)))))), (vset b2 a1.target ⟨a1.size, ((vget b2 a1.target).getD default).zone, (((vget b2 a1.target).getD default).tag), ((vget b2 a1.target).getD default).nodes⟩)))
    ((⟨(0 : Int), (((vget b2 a1.target).getD default).size), (⟨#[]⟩ : ByteArray), (0 : Int)⟩ : XRes), b1, b2))
def dD_expandR (a1 : XCall) (b1 : List (ByteArray × Int)) (b2 : List (ByteArray × XVn)) (b3 : List (ByteArray × XSn)) (b4 : List (XTgt × XDone)) : RT :=
 (.ask (!((vget b2 a1.target).isSome))
   (.leaf .ret ⟨Z9 60 [(4, .ptr 5 0)], (.cells 89 [.map 1, .map 2, .map 3, .map 4] :: oM b1 b2 b3 b4 [.cells 44 [.int .i64 5, .int .i64 0, .str (⟨#[]⟩ : ByteArray), .int .u64 0]])⟩ [0, 1, 2, 3, 4, 6])
   (.ask (decide ((IntKind.i64.wrap (a1.size - (((vget b2 a1.target).getD default).size))) > (0 : Int)))
     (.ask (decide (((mget (k := .str) (v := (.int .i64)) b1 (((vget b2 a1.target).getD default).zone)).getD default) < (IntKind.i64.wrap (a1.size - (((vget b2 a1.target).getD default).size)))))
       (.leaf .ret ⟨Z9 60 [(4, .ptr 5 0)], (.cells 89 [.map 1, .map 2, .map 3, .map 4] :: oM b1 b2 b3 b4 [.cells 44 [.int .i64 11, .int .i64 0, .str (⟨#[]⟩ : ByteArray), .int .u64 0]])⟩ [0, 1, 2, 3, 4, 6])
       (.need [a1.target = a1.target ∧ (vget b2 a1.target).isSome = true ∧ (vget b2 a1.target).isSome = true]
         (.leaf .ret ⟨Z9 60 [(4, .ptr 5 0)], (.cells 89 [.map 1, .map 2, .map 3, .map 4] :: oM (mset (k := .str) (v := (.int .i64)) b1 (((vget b2 a1.target).getD default).zone) (IntKind.i64.wrap (((mget (k := .str) (v := (.int .i64)) b1 (((vget b2 a1.target).getD default).zone)).getD default) - (IntKind.i64.wrap (a1.size - (((vget b2 a1.target).getD default).size)))))) (vset b2 a1.target ⟨a1.size, ((vget b2 a1.target).getD default).zone, (((vget b2 a1.target).getD default).tag), ((vget b2 a1.target).getD default).nodes⟩) b3 b4 [.cells 44 [.int .i64 0, .int .i64 a1.size, .str (⟨#[]⟩ : ByteArray), .int .u64 0]])⟩ [0, 1, 2, 3, 4, 6])))
     (.leaf .ret ⟨Z9 60 [(4, .ptr 5 0)], (.cells 89 [.map 1, .map 2, .map 3, .map 4] :: oM b1 b2 b3 b4 [.cells 44 [.int .i64 0, .int .i64 (((vget b2 a1.target).getD default).size), .str (⟨#[]⟩ : ByteArray), .int .u64 0]])⟩ [0, 1, 2, 3, 4, 6])))
theorem dD_expandF_tr (a1 : XCall) (b1 : List (ByteArray × Int)) (b2 : List (ByteArray × XVn)) (b3 : List (ByteArray × XSn)) (b4 : List (XTgt × XDone))  : Tr Tryz.prog 5 (Z3a Tryz.f55) (Z1f Tryz.f55 [.ptr 0 0, .agg (cc a1)] (.cells 89 [.map 1, .map 2, .map 3, .map 4] :: oM b1 b2 b3 b4 [])) (Z4a Tryz.prog Tryz.f55 (.agg [.int .i64 (((Z2f a1 b1 b2 b3 b4).1).err), .int .i64 (((Z2f a1 b1 b2 b3 b4).1).size), .str (((Z2f a1 b1 b2 b3 b4).1).zone), .int .u64 (((Z2f a1 b1 b2 b3 b4).1).tag)]) (.cells 89 [.map 1, .map 2, .map 3, .map 4] :: oM ((Z2f a1 b1 b2 b3 b4).2.1) ((Z2f a1 b1 b2 b3 b4).2.2) b3 b4 [])) := by
 refine Z20 (kok _ _ _ _ _ _) (E := E_dD_expand) (L := Z2a) 60 9999 Z14.none (dD_expandR a1 b1 b2 b3 b4) (by kernel_rfl) (by kernel_rfl) (by kernel_rfl) ?_
 unfold dD_expandR
 refine ⟨fun h0 => ?_, fun h0 => ?_⟩
 · have hF : Z2f a1 b1 b2 b3 b4 = ((⟨(5 : Int), (0 : Int), (⟨#[]⟩ : ByteArray), (0 : Int)⟩ : XRes), b1, b2) := by first | exact (Zb h0 rfl) | simp only [Z2f, h0, cond_true, cond_false]
   exact ⟨trivial, .inl (by (try rw [hF]); kernel_rfl), by (try rw [hF]); kernel_rfl⟩
 · refine ⟨fun h1 => ?_, fun h1 => ?_⟩
   · refine ⟨fun h2 => ?_, fun h2 => ?_⟩
     · have hF : Z2f a1 b1 b2 b3 b4 = ((⟨(11 : Int), (0 : Int), (⟨#[]⟩ : ByteArray), (0 : Int)⟩ : XRes), b1, b2) := by first | exact (Z5 h0 (Zb h1 (Zb h2 rfl))) | simp only [Z2f, h0, h1, h2, cond_true, cond_false]
       exact ⟨trivial, .inl (by (try rw [hF]); kernel_rfl), by (try rw [hF]); kernel_rfl⟩
     · refine ⟨Z6 (by first | rfl | exact ⟨rfl, h0, h0⟩ | exact ⟨rfl, h1, h1⟩ | exact ⟨h0, h0⟩ | exact ⟨h1, h1⟩ | (simp_all; done)) (Z10), ?_⟩
       have hF : Z2f a1 b1 b2 b3 b4 = ((⟨(0 : Int), a1.size, (⟨#[]⟩ : ByteArray), (0 : Int)⟩ : XRes), (mset (k := .str) (v := (.int .i64)) b1 (((vget b2 a1.target).getD default).zone) (IntKind.i64.wrap (((mget (k := .str) (v := (.int .i64)) b1 (((vget b2 a1.target).getD default).zone)).getD default) - (IntKind.i64.wrap (a1.size - (((vget b2 a1.target).getD default).size)))))), (vset b2 a1.target ⟨a1.size, ((vget b2 a1.target).getD default).zone, (((vget b2 a1.target).getD default).tag), ((vget b2 a1.target).getD default).nodes⟩)) := by first | exact (Z5 h0 (Zb h1 (Z5 h2 rfl))) | simp only [Z2f, h0, h1, h2, cond_true, cond_false]
       exact ⟨trivial, .inl (by (try rw [hF]); kernel_rfl), by (try rw [hF]); kernel_rfl⟩
   · have hF : Z2f a1 b1 b2 b3 b4 = ((⟨(0 : Int), (((vget b2 a1.target).getD default).size), (⟨#[]⟩ : ByteArray), (0 : Int)⟩ : XRes), b1, b2) := by first | exact (Z5 h0 (Z5 h1 rfl)) | simp only [Z2f, h0, h1, cond_true, cond_false]
     exact ⟨trivial, .inl (by (try rw [hF]); kernel_rfl), by (try rw [hF]); kernel_rfl⟩
noncomputable def dD_expand_fact0 : Fact Tryz.prog := Z50 55 Tryz.f55 (by kernel_rfl) rfl (by kernel_rfl) [.c (.ptr 0 0), .st .call] [.cells 89 [.map 1, .map 2, .map 3, .map 4], .map .str (.int .i64), .vols, .map .str .sn, .map .tgt .done] false (fun t u => .agg [.int .i64 (((Z2f t.2.1 u.2.1 u.2.2.1 u.2.2.2.1 u.2.2.2.2.1).1).err), .int .i64 (((Z2f t.2.1 u.2.1 u.2.2.1 u.2.2.2.1 u.2.2.2.2.1).1).size), .str (((Z2f t.2.1 u.2.1 u.2.2.1 u.2.2.2.1 u.2.2.2.2.1).1).zone), .int .u64 (((Z2f t.2.1 u.2.1 u.2.2.1 u.2.2.2.1 u.2.2.2.2.1).1).tag)]) (fun t u => (.cells 89 [.map 1, .map 2, .map 3, .map 4] :: oM ((Z2f t.2.1 u.2.1 u.2.2.1 u.2.2.2.1 u.2.2.2.2.1).2.1) ((Z2f t.2.1 u.2.1 u.2.2.1 u.2.2.2.1 u.2.2.2.2.1).2.2) (u.2.2.2.1) (u.2.2.2.2.1) [])) (fun t u => [])
 (nofun) (fun t u => by kernel_rfl) (fun t u => by kernel_rfl) (fun t u h => dD_expandF_tr t.2.1 u.2.1 u.2.2.1 u.2.2.2.1 u.2.2.2.2.1 )
noncomputable def dD_expand_fact : Fact Tryz.prog := Z9f dD_expand_fact0 [.c (.ptr 0 0), .st .call] [.cells 89 [.map 1, .map 2, .map 3, .map 4], .map .str (.int .i64), .vols, .map .str .sn, .map .tgt .done] (fun t u => .agg [.int .i64 (((Z2f t.2.1 u.2.1 u.2.2.1 u.2.2.2.1 u.2.2.2.2.1).1).err), .int .i64 (((Z2f t.2.1 u.2.1 u.2.2.1 u.2.2.2.1 u.2.2.2.2.1).1).size), .str (((Z2f t.2.1 u.2.1 u.2.2.1 u.2.2.2.1 u.2.2.2.2.1).1).zone), .int .u64 (((Z2f t.2.1 u.2.1 u.2.2.1 u.2.2.2.1 u.2.2.2.2.1).1).tag)]) (fun t u => (.cells 89 [.map 1, .map 2, .map 3, .map 4] :: oM ((Z2f t.2.1 u.2.1 u.2.2.1 u.2.2.2.1 u.2.2.2.2.1).2.1) ((Z2f t.2.1 u.2.1 u.2.2.1 u.2.2.2.1 u.2.2.2.2.1).2.2) (u.2.2.2.1) (u.2.2.2.2.1) [])) (fun t u => []) rfl [0, 3, 4] (by
 intro t u k hk
 simp only [List.mem_cons, List.not_mem_nil, or_false] at hk
 rcases hk with rfl | rfl | rfl
 all_goals exact ⟨by decide, rfl⟩)
noncomputable def E_dD_cut : Env := Z57 (P := Tryz.prog) [] [] [] ckf
def Z68 (a1 : XCall) (b1 : List (ByteArray × Int)) (b2 : List (ByteArray × XVn)) (b3 : List (ByteArray × XSn)) (b4 : List (XTgt × XDone)) : XRes × (List (ByteArray × XSn)) :=
 cond (!((mget (k := .str) (v := .sn) b3 a1.target).isSome))
  (cond (!((vget b2 a1.source).isSome))
    ((⟨(5 : Int), (0 : Int), (⟨#[]⟩ : ByteArray), (0 : Int)⟩ : XRes), b3)
    (cond (decide ((b3.length : Int) ≥ (64 : Int)))
      ((⟨(7 : Int), (0 : Int), (⟨#[]⟩ : ByteArray), (0 : Int)⟩ : XRes), b3)
      ((⟨(0 : Int), (((vget b2 a1.source).getD default).size), (⟨#[]⟩ : ByteArray), (((vget b2 a1.source).getD default).tag)⟩ : XRes), (mset (k := .str) (v := .sn) b3 a1.target (⟨(((vget b2 a1.source).getD default).size), (((vget b2 a1.source).getD default).tag)⟩ : XSn)))))
  ((⟨(0 : Int), (((mget (k := .str) (v := .sn) b3 a1.target).getD default).size), (⟨#[]⟩ : ByteArray), (((mget (k := .str) (v := .sn) b3 a1.target).getD default).tag)⟩ : XRes), b3)
def dD_cutR (a1 : XCall) (b1 : List (ByteArray × Int)) (b2 : List (ByteArray × XVn)) (b3 : List (ByteArray × XSn)) (b4 : List (XTgt × XDone)) : RT :=
 (.ask (!((mget (k := .str) (v := .sn) b3 a1.target).isSome))
   (.ask (!((vget b2 a1.source).isSome))
     (.leaf .ret ⟨Z9 60 [(4, .ptr 5 0)], (.cells 89 [.map 1, .map 2, .map 3, .map 4] :: oM b1 b2 b3 b4 [.cells 44 [.int .i64 5, .int .i64 0, .str (⟨#[]⟩ : ByteArray), .int .u64 0]])⟩ [0, 1, 2, 3, 4, 6])
     (.ask (decide ((b3.length : Int) ≥ (64 : Int)))
       (.leaf .ret ⟨Z9 60 [(4, .ptr 5 0)], (.cells 89 [.map 1, .map 2, .map 3, .map 4] :: oM b1 b2 b3 b4 [.cells 44 [.int .i64 7, .int .i64 0, .str (⟨#[]⟩ : ByteArray), .int .u64 0]])⟩ [0, 1, 2, 3, 4, 6])
       (.leaf .ret ⟨Z9 60 [(4, .ptr 5 0)], (.cells 89 [.map 1, .map 2, .map 3, .map 4] :: oM b1 b2 (mset (k := .str) (v := .sn) b3 a1.target (⟨(((vget b2 a1.source).getD default).size), (((vget b2 a1.source).getD default).tag)⟩ : XSn)) b4 [.cells 44 [.int .i64 0, .int .i64 (((vget b2 a1.source).getD default).size), .str (⟨#[]⟩ : ByteArray), .int .u64 (((vget b2 a1.source).getD default).tag)]])⟩ [0, 1, 2, 3, 4, 6])))
   (.leaf .ret ⟨Z9 60 [(4, .ptr 5 0)], (.cells 89 [.map 1, .map 2, .map 3, .map 4] :: oM b1 b2 b3 b4 [.cells 44 [.int .i64 0, .int .i64 (((mget (k := .str) (v := .sn) b3 a1.target).getD default).size), .str (⟨#[]⟩ : ByteArray), .int .u64 (((mget (k := .str) (v := .sn) b3 a1.target).getD default).tag)]])⟩ [0, 1, 2, 3, 4, 6]))
theorem dD_cutF_tr (a1 : XCall) (b1 : List (ByteArray × Int)) (b2 : List (ByteArray × XVn)) (b3 : List (ByteArray × XSn)) (b4 : List (XTgt × XDone))  : Tr Tryz.prog 5 (Z3a Tryz.f56) (Z1f Tryz.f56 [.ptr 0 0, .agg (cc a1)] (.cells 89 [.map 1, .map 2, .map 3, .map 4] :: oM b1 b2 b3 b4 [])) (Z4a Tryz.prog Tryz.f56 (.agg [.int .i64 (((Z68 a1 b1 b2 b3 b4).1).err), .int .i64 (((Z68 a1 b1 b2 b3 b4).1).size), .str (((Z68 a1 b1 b2 b3 b4).1).zone), .int .u64 (((Z68 a1 b1 b2 b3 b4).1).tag)]) (.cells 89 [.map 1, .map 2, .map 3, .map 4] :: oM b1 b2 ((Z68 a1 b1 b2 b3 b4).2) b4 [])) := by
 refine Z20 (kok _ _ _ _ _ _) (E := E_dD_cut) (L := Z2a) 60 9999 Z14.none (dD_cutR a1 b1 b2 b3 b4) (by kernel_rfl) (by kernel_rfl) (by kernel_rfl) ?_
 unfold dD_cutR
 refine ⟨fun h0 => ?_, fun h0 => ?_⟩
 · refine ⟨fun h1 => ?_, fun h1 => ?_⟩
   · have hF : Z68 a1 b1 b2 b3 b4 = ((⟨(5 : Int), (0 : Int), (⟨#[]⟩ : ByteArray), (0 : Int)⟩ : XRes), b3) := by first | exact (Zb h0 (Zb h1 rfl)) | simp only [Z68, h0, h1, cond_true, cond_false]
     exact ⟨trivial, .inl (by (try rw [hF]); kernel_rfl), by (try rw [hF]); kernel_rfl⟩
   · refine ⟨fun h2 => ?_, fun h2 => ?_⟩
     · have hF : Z68 a1 b1 b2 b3 b4 = ((⟨(7 : Int), (0 : Int), (⟨#[]⟩ : ByteArray), (0 : Int)⟩ : XRes), b3) := by first | exact (Zb h0 (Z5 h1 (Zb h2 rfl))) | simp only [Z68, h0, h1, h2, cond_true, cond_false]
       exact ⟨trivial, .inl (by (try rw [hF]); kernel_rfl), by (try rw [hF]); kernel_rfl⟩
     · have hF : Z68 a1 b1 b2 b3 b4 = ((⟨(0 : Int), (((vget b2 a1.source).getD default).size), (⟨#[]⟩ : ByteArray), (((vget b2 a1.source).getD default).tag)⟩ : XRes), (mset (k := .str) (v := .sn) b3 a1.target (⟨(((vget b2 a1.source).getD default).size), (((vget b2 a1.source).getD default).tag)⟩ : XSn))) := by first | exact (Zb h0 (Z5 h1 (Z5 h2 rfl))) | simp only [Z68, h0, h1, h2, cond_true, cond_false]
       exact ⟨trivial, .inl (by (try rw [hF]); kernel_rfl), by (try rw [hF]); kernel_rfl⟩
 · have hF : Z68 a1 b1 b2 b3 b4 = ((⟨(0 : Int), (((mget (k := .str) (v := .sn) b3 a1.target).getD default).size), (⟨#[]⟩ : ByteArray), (((mget (k := .str) (v := .sn) b3 a1.target).getD default).tag)⟩ : XRes), b3) := by first | exact (Z5 h0 rfl) | simp only [Z68, h0, cond_true, cond_false]
   exact ⟨trivial, .inl (by (try rw [hF]); kernel_rfl), by (try rw [hF]); kernel_rfl⟩
noncomputable def dD_cut_fact0 : Fact Tryz.prog := Z50 56 Tryz.f56 (by kernel_rfl) rfl (by kernel_rfl) [.c (.ptr 0 0), .st .call] [.cells 89 [.map 1, .map 2, .map 3, .map 4], .map .str (.int .i64), .vols, .map .str .sn, .map .tgt .done] false (fun t u => .agg [.int .i64 (((Z68 t.2.1 u.2.1 u.2.2.1 u.2.2.2.1 u.2.2.2.2.1).1).err), .int .i64 (((Z68 t.2.1 u.2.1 u.2.2.1 u.2.2.2.1 u.2.2.2.2.1).1).size), .str (((Z68 t.2.1 u.2.1 u.2.2.1 u.2.2.2.1 u.2.2.2.2.1).1).zone), .int .u64 (((Z68 t.2.1 u.2.1 u.2.2.1 u.2.2.2.1 u.2.2.2.2.1).1).tag)]) (fun t u => (.cells 89 [.map 1, .map 2, .map 3, .map 4] :: oM (u.2.1) (u.2.2.1) ((Z68 t.2.1 u.2.1 u.2.2.1 u.2.2.2.1 u.2.2.2.2.1).2) (u.2.2.2.2.1) [])) (fun t u => [])
 (nofun) (fun t u => by kernel_rfl) (fun t u => by kernel_rfl) (fun t u h => dD_cutF_tr t.2.1 u.2.1 u.2.2.1 u.2.2.2.1 u.2.2.2.2.1 )
noncomputable def dD_cut_fact : Fact Tryz.prog := Z9f dD_cut_fact0 [.c (.ptr 0 0), .st .call] [.cells 89 [.map 1, .map 2, .map 3, .map 4], .map .str (.int .i64), .vols, .map .str .sn, .map .tgt .done] (fun t u => .agg [.int .i64 (((Z68 t.2.1 u.2.1 u.2.2.1 u.2.2.2.1 u.2.2.2.2.1).1).err), .int .i64 (((Z68 t.2.1 u.2.1 u.2.2.1 u.2.2.2.1 u.2.2.2.2.1).1).size), .str (((Z68 t.2.1 u.2.1 u.2.2.1 u.2.2.2.1 u.2.2.2.2.1).1).zone), .int .u64 (((Z68 t.2.1 u.2.1 u.2.2.1 u.2.2.2.1 u.2.2.2.2.1).1).tag)]) (fun t u => (.cells 89 [.map 1, .map 2, .map 3, .map 4] :: oM (u.2.1) (u.2.2.1) ((Z68 t.2.1 u.2.1 u.2.2.1 u.2.2.2.1 u.2.2.2.2.1).2) (u.2.2.2.2.1) [])) (fun t u => []) rfl [0, 1, 2, 4] (by
 intro t u k hk
 simp only [List.mem_cons, List.not_mem_nil, or_false] at hk
 rcases hk with rfl | rfl | rfl | rfl
 all_goals exact ⟨by decide, rfl⟩)
noncomputable def E_dD_act : Env := Z57 (P := Tryz.prog) [dD_create_fact, dD_expand_fact, dD_cut_fact] [] [] ckf
def Z21 (a1 : XCall) (b1 : List (ByteArray × Int)) (b2 : List (ByteArray × XVn)) (b3 : List (ByteArray × XSn)) (b4 : List (XTgt × XDone)) : XRes × (List (ByteArray × Int)) × (List (ByteArray × XVn)) × (List (ByteArray × XSn)) :=
 cond (a1.verb == (1 : Int))
  (((Z1e a1 b1 b2 b3 b4).1), (Z1e a1 b1 b2 b3 b4).2.1, (Z1e a1 b1 b2 b3 b4).2.2, b3)
  (cond (a1.verb == (5 : Int))
    (((Z2f a1 b1 b2 b3 b4).1), (Z2f a1 b1 b2 b3 b4).2.1, (Z2f a1 b1 b2 b3 b4).2.2, b3)
    (cond (a1.verb == (6 : Int))
      (((Z68 a1 b1 b2 b3 b4).1), b1, b2, (Z68 a1 b1 b2 b3 b4).2)
      (cond (a1.verb == (7 : Int))
        ((default : XRes), b1, b2, (mdel (k := .str) (v := .sn) b3 a1.target))
        (cond (a1.verb == (2 : Int))
          (cond (decide (((((vget b2 a1.target).map fun v => v.nodes.length).getD 0 : Nat) : Int) > (0 : Int)))
            ((⟨(10 : Int), (0 : Int), (⟨#[]⟩ : ByteArray), (0 : Int)⟩ : XRes), b1, b2, b3)
            (cond ((vget b2 a1.target).isSome)
              ((default : XRes), (mset (k := .str) (v := (.int .i64)) b1 (((vget b2 a1.target).getD default).zone) (IntKind.i64.wrap (((mget (k := .str) (v := (.int .i64)) b1 (((vget b2 a1.target).getD default).zone)).getD default) + (((vget b2 a1.target).getD default).size)))), (vdel b2 a1.target), b3)
              ((default : XRes), b1, b2, b3)))
          (cond (a1.verb == (3 : Int))
            (cond (!((vget b2 a1.target).isSome))
              ((⟨(5 : Int), (0 : Int), (⟨#[]⟩ : ByteArray), (0 : Int)⟩ : XRes), b1, b2, b3)
              ((default : XRes), b1, (vmod b2 a1.target fun l => mset (k := .str) (v := .bool) l a1.node true), b3))
            (cond (a1.verb == (4 : Int))
              ((default : XRes), b1, (vmod b2 a1.target fun l => mdel (k := .str) (v := .bool) l a1.node), b3)
              ((default : XRes), b1, b2, b3)))))))
def dD_actR (a1 : XCall) (b1 : List (ByteArray × Int)) (b2 : List (ByteArray × XVn)) (b3 : List (ByteArray × XSn)) (b4 : List (XTgt × XDone)) : RT :=
 (.ask (a1.verb == (1 : Int))
   (.leaf .ret ⟨Z9 82 [(4, .ptr 5 0)], (.cells 89 [.map 1, .map 2, .map 3, .map 4] :: oM ((Z1e a1 b1 b2 b3 b4).2.1) ((Z1e a1 b1 b2 b3 b4).2.2) b3 b4 [.cells 44 [.int .i64 (((Z1e a1 b1 b2 b3 b4).1).err), .int .i64 (((Z1e a1 b1 b2 b3 b4).1).size), .str (((Z1e a1 b1 b2 b3 b4).1).zone), .int .u64 (((Z1e a1 b1 b2 b3 b4).1).tag)]])⟩ [0, 1, 2, 3, 4, 6])
   (.ask (a1.verb == (5 : Int))
     (.leaf .ret ⟨Z9 82 [(4, .ptr 5 0)], (.cells 89 [.map 1, .map 2, .map 3, .map 4] :: oM ((Z2f a1 b1 b2 b3 b4).2.1) ((Z2f a1 b1 b2 b3 b4).2.2) b3 b4 [.cells 44 [.int .i64 (((Z2f a1 b1 b2 b3 b4).1).err), .int .i64 (((Z2f a1 b1 b2 b3 b4).1).size), .str (((Z2f a1 b1 b2 b3 b4).1).zone), .int .u64 (((Z2f a1 b1 b2 b3 b4).1).tag)]])⟩ [0, 1, 2, 3, 4, 6])
     (.ask (a1.verb == (6 : Int))
       (.leaf .ret ⟨Z9 82 [(4, .ptr 5 0)], (.cells 89 [.map 1, .map 2, .map 3, .map 4] :: oM b1 b2 ((Z68 a1 b1 b2 b3 b4).2) b4 [.cells 44 [.int .i64 (((Z68 a1 b1 b2 b3 b4).1).err), .int .i64 (((Z68 a1 b1 b2 b3 b4).1).size), .str (((Z68 a1 b1 b2 b3 b4).1).zone), .int .u64 (((Z68 a1 b1 b2 b3 b4).1).tag)]])⟩ [0, 1, 2, 3, 4, 6])
       (.ask (a1.verb == (7 : Int))
         (.leaf .ret ⟨Z9 82 [(4, .ptr 5 0)], (.cells 89 [.map 1, .map 2, .map 3, .map 4] :: oM b1 b2 (mdel (k := .str) (v := .sn) b3 a1.target) b4 [.cells 44 [.int .i64 0, .int .i64 0, .str (⟨#[]⟩ : ByteArray), .int .u64 0]])⟩ [0, 1, 2, 3, 4, 6])
         (.ask (a1.verb == (2 : Int))
           (.need [(vget b2 a1.target).isSome = (vget b2 a1.target).isSome]
             (.ask (decide (((((vget b2 a1.target).map fun v => v.nodes.length).getD 0 : Nat) : Int) > (0 : Int)))
               (.leaf .ret ⟨Z9 82 [(4, .ptr 5 0)], (.cells 89 [.map 1, .map 2, .map 3, .map 4] :: oM b1 b2 b3 b4 [.cells 44 [.int .i64 10, .int .i64 0, .str (⟨#[]⟩ : ByteArray), .int .u64 0]])⟩ [0, 1, 2, 3, 4, 6])
               (.ask ((vget b2 a1.target).isSome)
                 (.leaf .ret ⟨Z9 82 [(4, .ptr 5 0)], (.cells 89 [.map 1, .map 2, .map 3, .map 4] :: oM (mset (k := .str) (v := (.int .i64)) b1 (((vget b2 a1.target).getD default).zone) (IntKind.i64.wrap (((mget (k := .str) (v := (.int .i64)) b1 (((vget b2 a1.target).getD default).zone)).getD default) + (((vget b2 a1.target).getD default).size)))) (vdel b2 a1.target) b3 b4 [.cells 44 [.int .i64 0, .int .i64 0, .str (⟨#[]⟩ : ByteArray), .int .u64 0]])⟩ [0, 1, 2, 3, 4, 6])
                 (.leaf .ret ⟨Z9 82 [(4, .ptr 5 0)], (.cells 89 [.map 1, .map 2, .map 3, .map 4] :: oM b1 b2 b3 b4 [.cells 44 [.int .i64 0, .int .i64 0, .str (⟨#[]⟩ : ByteArray), .int .u64 0]])⟩ [0, 1, 2, 3, 4, 6]))))
           (.ask (a1.verb == (3 : Int))
             (.ask (!((vget b2 a1.target).isSome))
               (.leaf .ret ⟨Z9 82 [(4, .ptr 5 0)], (.cells 89 [.map 1, .map 2, .map 3, .map 4] :: oM b1 b2 b3 b4 [.cells 44 [.int .i64 5, .int .i64 0, .str (⟨#[]⟩ : ByteArray), .int .u64 0]])⟩ [0, 1, 2, 3, 4, 6])
               (.need [(vget b2 a1.target).isSome = true ∧ (vget b2 a1.target).isSome = true]
                 (.leaf .ret ⟨Z9 82 [(4, .ptr 5 0)], (.cells 89 [.map 1, .map 2, .map 3, .map 4] :: oM b1 (vmod b2 a1.target fun l => mset (k := .str) (v := .bool) l a1.node true) b3 b4 [.cells 44 [.int .i64 0, .int .i64 0, .str (⟨#[]⟩ : ByteArray), .int .u64 0]])⟩ [0, 1, 2, 3, 4, 6])))
             (.ask (a1.verb == (4 : Int))
               (.need [(vget b2 a1.target).isSome = (vget b2 a1.target).isSome]
                 (.leaf .ret ⟨Z9 82 [(4, .ptr 5 0)], (.cells 89 [.map 1, .map 2, .map 3, .map 4] :: oM b1 (vmod b2 a1.target fun l => mdel (k := .str) (v := .bool) l a1.node) b3 b4 [.cells 44 [.int .i64 0, .int .i64 0, .str (⟨#[]⟩ : ByteArray), .int .u64 0]])⟩ [0, 1, 2, 3, 4, 6]))
               (.leaf .ret ⟨Z9 82 [(4, .ptr 5 0)], (.cells 89 [.map 1, .map 2, .map 3, .map 4] :: oM b1 b2 b3 b4 [.cells 44 [.int .i64 0, .int .i64 0, .str (⟨#[]⟩ : ByteArray), .int .u64 0]])⟩ [0, 1, 2, 3, 4, 6]))))))))
theorem dD_actF_tr (a1 : XCall) (b1 : List (ByteArray × Int)) (b2 : List (ByteArray × XVn)) (b3 : List (ByteArray × XSn)) (b4 : List (XTgt × XDone))  : Tr Tryz.prog 5 (Z3a Tryz.f47) (Z1f Tryz.f47 [.ptr 0 0, .agg (cc a1)] (.cells 89 [.map 1, .map 2, .map 3, .map 4] :: oM b1 b2 b3 b4 [])) (Z4a Tryz.prog Tryz.f47 (.agg [.int .i64 (((Z21 a1 b1 b2 b3 b4).1).err), .int .i64 (((Z21 a1 b1 b2 b3 b4).1).size), .str (((Z21 a1 b1 b2 b3 b4).1).zone), .int .u64 (((Z21 a1 b1 b2 b3 b4).1).tag)]) (.cells 89 [.map 1, .map 2, .map 3, .map 4] :: oM ((Z21 a1 b1 b2 b3 b4).2.1) ((Z21 a1 b1 b2 b3 b4).2.2.1) ((Z21 a1 b1 b2 b3 b4).2.2.2) b4 [])) := by
 refine Z20 (kok _ _ _ _ _ _) (E := E_dD_act) (L := Z2a) 60 9999 Z14.none (dD_actR a1 b1 b2 b3 b4) (by kernel_rfl) (by kernel_rfl) (by kernel_rfl) ?_
 unfold dD_actR
 refine ⟨fun h0 => ?_, fun h0 => ?_⟩
 · have hF : Z21 a1 b1 b2 b3 b4 = (((Z1e a1 b1 b2 b3 b4).1), (Z1e a1 b1 b2 b3 b4).2.1, (Z1e a1 b1 b2 b3 b4).2.2, b3) := by first | exact (Zb h0 rfl) | simp only [Z21, h0, cond_true, cond_false]
   exact ⟨trivial, .inl (by (try rw [hF]); kernel_rfl), by (try rw [hF]); kernel_rfl⟩
 · refine ⟨fun h1 => ?_, fun h1 => ?_⟩
   · have hF : Z21 a1 b1 b2 b3 b4 = (((Z2f a1 b1 b2 b3 b4).1), (Z2f a1 b1 b2 b3 b4).2.1, (Z2f a1 b1 b2 b3 b4).2.2, b3) := by first | exact (Z5 h0 (Zb h1 rfl)) | simp only [Z21, h0, h1, cond_true, cond_false]
     exact ⟨trivial, .inl (by (try rw [hF]); kernel_rfl), by (try rw [hF]); kernel_rfl⟩
   · refine ⟨fun h2 => ?_, fun h2 => ?_⟩
     · have hF : Z21 a1 b1 b2 b3 b4 = (((Z68 a1 b1 b2 b3 b4).1), b1, b2, (Z68 a1 b1 b2 b3 b4).2) := by first | exact (Z5 h0 (Z5 h1 (Zb h2 rfl))) | simp only [Z21, h0, h1, h2, cond_true, cond_false]
       exact ⟨trivial, .inl (by (try rw [hF]); kernel_rfl), by (try rw [hF]); kernel_rfl⟩
     · refine ⟨fun h3 => ?_, fun h3 => ?_⟩
       · have hF : Z21 a1 b1 b2 b3 b4 = ((default : XRes), b1, b2, (mdel (k := .str) (v := .sn) b3 a1.target)) := by first | exact (Z5 h0 (Z5 h1 (Z5 h2 (Zb h3 rfl)))) | simp only [Z21, h0, h1, h2, h3, cond_true, cond_false]
         exact ⟨trivial, .inl (by (try rw [hF]); kernel_rfl), by (try rw [hF]); kernel_rfl⟩
       · refine ⟨fun h4 => ?_, fun h4 => ?_⟩
         · refine ⟨Z6 (by first | rfl | exact ⟨rfl, h0, h0⟩ | exact ⟨rfl, h1, h1⟩ | exact ⟨h0, h0⟩ | exact ⟨h1, h1⟩ | (simp_all; done)) (Z10), ?_⟩
           refine ⟨fun h5 => ?_, fun h5 => ?_⟩
           · have hF : Z21 a1 b1 b2 b3 b4 = ((⟨(10 : Int), (0 : Int), (⟨#[]⟩ : ByteArray), (0 : Int)⟩ : XRes), b1, b2, b3) := by first | exact (Z5 h0 (Z5 h1 (Z5 h2 (Z5 h3 (Zb h4 (Zb h5 rfl)))))) | simp only [Z21, h0, h1, h2, h3, h4, h5, cond_true, cond_false]
             exact ⟨trivial, .inl (by (try rw [hF]); kernel_rfl), by (try rw [hF]); kernel_rfl⟩
           · refine ⟨fun h6 => ?_, fun h6 => ?_⟩
             · have hF : Z21 a1 b1 b2 b3 b4 = ((default : XRes), (mset (k := .str) (v := (.int .i64)) b1 (((vget b2 a1.target).getD default).zone) (IntKind.i64.wrap (((mget (k := .str) (v := (.int .i64)) b1 (((vget b2 a1.target).getD default).zone)).getD default) + (((vget b2 a1.target).getD default).size)))), (vdel b2 a1.target), b3) := by first | exact (Z5 h0 (Z5 h1 (Z5 h2 (Z5 h3 (Zb h4 (Z5 h5 (Zb h6 rfl))))))) | simp only [Z21, h0, h1, h2, h3, h4, h5, h6, cond_true, cond_false]
               exact ⟨trivial, .inl (by (try rw [hF]); kernel_rfl), by (try rw [hF]); kernel_rfl⟩
             · have hF : Z21 a1 b1 b2 b3 b4 = ((default : XRes), b1, b2, b3) := by first | exact (Z5 h0 (Z5 h1 (Z5 h2 (Z5 h3 (Zb h4 (Z5 h5 (Z5 h6 rfl))))))) | simp only [Z21, h0, h1, h2, h3, h4, h5, h6, cond_true, cond_false]
               exact ⟨trivial, .inl (by (try rw [hF]); kernel_rfl), by (try rw [hF]); kernel_rfl⟩
         · refine ⟨fun h5 => ?_, fun h5 => ?_⟩
           · refine ⟨fun h6 => ?_, fun h6 => ?_⟩
             · have hF : Z21 a1 b1 b2 b3 b4 = ((⟨(5 : Int), (0 : Int), (⟨#[]⟩ : ByteArray), (0 : Int)⟩ : XRes), b1, b2, b3) := by first | exact (Z5 h0 (Z5 h1 (Z5 h2 (Z5 h3 (Z5 h4 (Zb h5 (Zb h6 rfl))))))) | simp only [Z21, h0, h1, h2, h3, h4, h5, h6, cond_true, cond_false]
               exact ⟨trivial, .inl (by (try rw [hF]); kernel_rfl), by (try rw [hF]); kernel_rfl⟩
             · refine ⟨Z6 (by first | rfl | exact ⟨rfl, h0, h0⟩ | exact ⟨rfl, h1, h1⟩ | exact ⟨h0, h0⟩ | exact ⟨h1, h1⟩ | (simp_all; done)) (Z10), ?_⟩
               have hF : Z21 a1 b1 b2 b3 b4 = ((default : XRes), b1, (vmod b2 a1.target fun l => mset (k := .str) (v := .bool) l a1.node true), b3) := by first | exact (Z5 h0 (Z5 h1 (Z5 h2 (Z5 h3 (Z5 h4 (Zb h5 (Z5 h6 rfl))))))) | simp only [Z21, h0, h1, h2, h3, h4, h5, h6, cond_true, cond_false]
               exact ⟨trivial, .inl (by (try rw [hF]); kernel_rfl), by (try rw [hF]); kernel_rfl⟩
           · refine ⟨fun h6 => ?_, fun h6 => ?_⟩
             · refine ⟨Z6 (by first | rfl | exact ⟨rfl, h0, h0⟩ | exact ⟨rfl, h1, h1⟩ | exact ⟨h0, h0⟩ | exact ⟨h1, h1⟩ | (simp_all; done)) (Z10), ?_⟩
               have hF : Z21 a1 b1 b2 b3 b4 = ((default : XRes), b1, (vmod b2 a1.target fun l => mdel (k := .str) (v := .bool) l a1.node), b3) := by first | exact (Z5 h0 (Z5 h1 (Z5 h2 (Z5 h3 (Z5 h4 (Z5 h5 (Zb h6 rfl))))))) | simp only [Z21, h0, h1, h2, h3, h4, h5, h6, cond_true, cond_false]
               exact ⟨trivial, .inl (by (try rw [hF]); kernel_rfl), by (try rw [hF]); kernel_rfl⟩
             · have hF : Z21 a1 b1 b2 b3 b4 = ((default : XRes), b1, b2, b3) := by first | exact (Z5 h0 (Z5 h1 (Z5 h2 (Z5 h3 (Z5 h4 (Z5 h5 (Z5 h6 rfl))))))) | simp only [Z21, h0, h1, h2, h3, h4, h5, h6, cond_true, cond_false]
               exact ⟨trivial, .inl (by (try rw [hF]); kernel_rfl), by (try rw [hF]); kernel_rfl⟩
noncomputable def dD_act_fact0 : Fact Tryz.prog := Z50 47 Tryz.f47 (by kernel_rfl) rfl (by kernel_rfl) [.c (.ptr 0 0), .st .call] [.cells 89 [.map 1, .map 2, .map 3, .map 4], .map .str (.int .i64), .vols, .map .str .sn, .map .tgt .done] false (fun t u => .agg [.int .i64 (((Z21 t.2.1 u.2.1 u.2.2.1 u.2.2.2.1 u.2.2.2.2.1).1).err), .int .i64 (((Z21 t.2.1 u.2.1 u.2.2.1 u.2.2.2.1 u.2.2.2.2.1).1).size), .str (((Z21 t.2.1 u.2.1 u.2.2.1 u.2.2.2.1 u.2.2.2.2.1).1).zone), .int .u64 (((Z21 t.2.1 u.2.1 u.2.2.1 u.2.2.2.1 u.2.2.2.2.1).1).tag)]) (fun t u => (.cells 89 [.map 1, .map 2, .map 3, .map 4] :: oM ((Z21 t.2.1 u.2.1 u.2.2.1 u.2.2.2.1 u.2.2.2.2.1).2.1) ((Z21 t.2.1 u.2.1 u.2.2.1 u.2.2.2.1 u.2.2.2.2.1).2.2.1) ((Z21 t.2.1 u.2.1 u.2.2.1 u.2.2.2.1 u.2.2.2.2.1).2.2.2) (u.2.2.2.2.1) [])) (fun t u => [])
 (nofun) (fun t u => by kernel_rfl) (fun t u => by kernel_rfl) (fun t u h => dD_actF_tr t.2.1 u.2.1 u.2.2.1 u.2.2.2.1 u.2.2.2.2.1 )
noncomputable def dD_act_fact : Fact Tryz.prog := Z9f dD_act_fact0 [.c (.ptr 0 0), .st .call] [.cells 89 [.map 1, .map 2, .map 3, .map 4], .map .str (.int .i64), .vols, .map .str .sn, .map .tgt .done] (fun t u => .agg [.int .i64 (((Z21 t.2.1 u.2.1 u.2.2.1 u.2.2.2.1 u.2.2.2.2.1).1).err), .int .i64 (((Z21 t.2.1 u.2.1 u.2.2.1 u.2.2.2.1 u.2.2.2.2.1).1).size), .str (((Z21 t.2.1 u.2.1 u.2.2.1 u.2.2.2.1 u.2.2.2.2.1).1).zone), .int .u64 (((Z21 t.2.1 u.2.1 u.2.2.1 u.2.2.2.1 u.2.2.2.2.1).1).tag)]) (fun t u => (.cells 89 [.map 1, .map 2, .map 3, .map 4] :: oM ((Z21 t.2.1 u.2.1 u.2.2.1 u.2.2.2.1 u.2.2.2.2.1).2.1) ((Z21 t.2.1 u.2.1 u.2.2.1 u.2.2.2.1 u.2.2.2.2.1).2.2.1) ((Z21 t.2.1 u.2.1 u.2.2.1 u.2.2.2.1 u.2.2.2.2.1).2.2.2) (u.2.2.2.2.1) [])) (fun t u => []) rfl [0, 4] (by
 intro t u k hk
 simp only [List.mem_cons, List.not_mem_nil, or_false] at hk
 rcases hk with rfl | rfl
 all_goals exact ⟨by decide, rfl⟩)
end Go.Proofs.YtkledlcmhbjadaaGreatDoor
