/- The driver: what a call does. -/
import Derived.Test.YtpffbkbadnhmmaaDName
set_option linter.unusedVariables false
set_option linter.unusedSimpArgs false
set_option maxRecDepth 100000
namespace Go.Proofs.Ytpffbkbadnhmmaa
open Go Go.Eng
noncomputable def E_dD_source : Env := Z62 (P := Try.prog) [] [] [] ckf
def Z3a (a1 : BA) (b1 : LA) (b2 : LB) (b3 : LC) (b4 : LD) : XSn × Int :=
 cond (decide (a1 = (⟨#[]⟩ : BA)))
  ((⟨(0 : Int), (0 : Int)⟩ : XSn), (0 : Int))
  (cond ((mget (k := .str) (v := .sn) b3 a1).isSome)
    (((mget (k := .str) (v := .sn) b3 a1).getD default), (0 : Int))
    (cond ((vget b2 a1).isSome)
      ((⟨(((vget b2 a1).getD default).size), (((vget b2 a1).getD default).tag)⟩ : XSn), (0 : Int))
      ((⟨(0 : Int), (0 : Int)⟩ : XSn), (5 : Int))))
def dD_sourceR (a1 : BA) (b1 : LA) (b2 : LB) (b3 : LC) (b4 : LD) : RT :=
 (.ask (decide (a1 = (⟨#[]⟩ : BA)))
   (.leaf .ret ⟨Z9 40 [(4, .ptr 5 0), (5, .int .i64 0)], (.cells 102 [.map 1, .map 2, .map 3, .map 4] :: oM b1 b2 b3 b4 [.cells 120 [.int .i64 0, .int .u64 0]])⟩ [])
   (.ask ((mget (k := .str) (v := .sn) b3 a1).isSome)
     (.leaf .ret ⟨Z9 40 [(4, .ptr 5 0), (5, .int .i64 0)], (.cells 102 [.map 1, .map 2, .map 3, .map 4] :: oM b1 b2 b3 b4 [.cells 120 [.int .i64 (((mget (k := .str) (v := .sn) b3 a1).getD default).size), .int .u64 (((mget (k := .str) (v := .sn) b3 a1).getD default).tag)]])⟩ [])
     (.ask ((vget b2 a1).isSome)
       (.leaf .ret ⟨Z9 40 [(4, .ptr 5 0), (5, .int .i64 0)], (.cells 102 [.map 1, .map 2, .map 3, .map 4] :: oM b1 b2 b3 b4 [.cells 120 [.int .i64 (((vget b2 a1).getD default).size), .int .u64 (((vget b2 a1).getD default).tag)]])⟩ [])
       (.leaf .ret ⟨Z9 40 [(4, .ptr 5 0), (5, .int .i64 5)], (.cells 102 [.map 1, .map 2, .map 3, .map 4] :: oM b1 b2 b3 b4 [.cells 120 [.int .i64 0, .int .u64 0]])⟩ []))))
theorem dD_sourceF_tr (a1 : BA) (b1 : LA) (b2 : LB) (b3 : LC) (b4 : LD)  : Tr Try.prog 5 (Z3b Try.f106) (Z25 Try.f106 [.ptr 0 0, .str a1] (.cells 102 [.map 1, .map 2, .map 3, .map 4] :: oM b1 b2 b3 b4 [])) (Z46 Try.prog Try.f106 (.tup [.agg [.int .i64 (((Z3a a1 b1 b2 b3 b4).1).size), .int .u64 (((Z3a a1 b1 b2 b3 b4).1).tag)], .int .i64 ((Z3a a1 b1 b2 b3 b4).2)]) (.cells 102 [.map 1, .map 2, .map 3, .map 4] :: oM b1 b2 b3 b4 [])) := by
 refine Z2f (kok _ _ _ _ _ _) (E := E_dD_source) (L := Z30) 60 9999 Z13.none (dD_sourceR a1 b1 b2 b3 b4) (by kernel_rfl) (by kernel_rfl) (by kernel_rfl) ?_
 unfold dD_sourceR
 refine ⟨fun h0 => ?_, fun h0 => ?_⟩
 · have hF : Z3a a1 b1 b2 b3 b4 = ((⟨(0 : Int), (0 : Int)⟩ : XSn), (0 : Int)) := by first | exact (Z11 h0 rfl) | simp only [Z3a, h0, cond_true, cond_false]
   exact ⟨trivial, .inl (by (try rw [hF]); kernel_rfl), by (try rw [hF]); kernel_rfl⟩
 · refine ⟨fun h1 => ?_, fun h1 => ?_⟩
   · have hF : Z3a a1 b1 b2 b3 b4 = (((mget (k := .str) (v := .sn) b3 a1).getD default), (0 : Int)) := by first | exact (Z3 h0 (Z11 h1 rfl)) | simp only [Z3a, h0, h1, cond_true, cond_false]
     exact ⟨trivial, .inl (by (try rw [hF]); kernel_rfl), by (try rw [hF]); kernel_rfl⟩
   · refine ⟨fun h2 => ?_, fun h2 => ?_⟩
     · have hF : Z3a a1 b1 b2 b3 b4 = ((⟨(((vget b2 a1).getD default).size), (((vget b2 a1).getD default).tag)⟩ : XSn), (0 : Int)) := by first | exact (Z3 h0 (Z3 h1 (Z11 h2 rfl))) | simp only [Z3a, h0, h1, h2, cond_true, cond_false]
       exact ⟨trivial, .inl (by (try rw [hF]); kernel_rfl), by (try rw [hF]); kernel_rfl⟩
     · have hF : Z3a a1 b1 b2 b3 b4 = ((⟨(0 : Int), (0 : Int)⟩ : XSn), (5 : Int)) := by first | exact (Z3 h0 (Z3 h1 (Z3 h2 rfl))) | simp only [Z3a, h0, h1, h2, cond_true, cond_false]
       exact ⟨trivial, .inl (by (try rw [hF]); kernel_rfl), by (try rw [hF]); kernel_rfl⟩
noncomputable def dD_source_fact : Fact Try.prog := Z4f 106 Try.f106 (by kernel_rfl) rfl (by kernel_rfl) [.c (.ptr 0 0), .c (.str)] [.cells 102 [.map 1, .map 2, .map 3, .map 4], .map .str (.int .i64), .vols, .map .str .sn, .map .tgt .done] true (fun t u => .tup [.agg [.int .i64 (((Z3a t.2.1 u.2.1 u.2.2.1 u.2.2.2.1 u.2.2.2.2.1).1).size), .int .u64 (((Z3a t.2.1 u.2.1 u.2.2.1 u.2.2.2.1 u.2.2.2.2.1).1).tag)], .int .i64 ((Z3a t.2.1 u.2.1 u.2.2.1 u.2.2.2.1 u.2.2.2.2.1).2)]) (fun t u => HPL.enc _ u) (fun t u => [])
 (fun _ _ _ => rfl) (fun t u => by kernel_rfl) (fun t u => by kernel_rfl) (fun t u h => dD_sourceF_tr t.2.1 u.2.1 u.2.2.1 u.2.2.2.1 u.2.2.2.2.1 )
noncomputable def E_dD_create : Env := Z62 (P := Try.prog) [dD_source_fact] [] [] ckf
def Z24 (a1 : XCall) (b1 : LA) (b2 : LB) (b3 : LC) (b4 : LD) : XRes × LA × LB :=
 cond ((vget b2 a1.target).isSome)
  (cond (decide ((((vget b2 a1.target).getD default).size) < a1.size))
    ((⟨(12 : Int), (0 : Int), (⟨#[]⟩ : BA), (0 : Int)⟩ : XRes), b1, b2)
    ((⟨(0 : Int), (((vget b2 a1.target).getD default).size), ((vget b2 a1.target).getD default).zone, (((vget b2 a1.target).getD default).tag)⟩ : XRes), b1, b2))
  (cond (!((mget (k := .str) (v := (.int .i64)) b1 a1.zone).isSome))
    ((⟨(5 : Int), (0 : Int), (⟨#[]⟩ : BA), (0 : Int)⟩ : XRes), b1, b2)
    (cond (!(((Z3a a1.source b1 b2 b3 b4).2) == (0 : Int)))
      ((⟨((Z3a a1.source b1 b2 b3 b4).2), (0 : Int), (⟨#[]⟩ : BA), (0 : Int)⟩ : XRes), b1, b2)
      (cond (decide ((((Z3a a1.source b1 b2 b3 b4).1).size) > a1.size))
        ((⟨(12 : Int), (0 : Int), (⟨#[]⟩ : BA), (0 : Int)⟩ : XRes), b1, b2)
        (cond (decide ((b2.length : Int) ≥ (64 : Int)))
          ((⟨(7 : Int), (0 : Int), (⟨#[]⟩ : BA), (0 : Int)⟩ : XRes), b1, b2)
          (cond (decide (((mget (k := .str) (v := (.int .i64)) b1 a1.zone).getD default) < a1.size))
            ((⟨(11 : Int), (0 : Int), (⟨#[]⟩ : BA), (0 : Int)⟩ : XRes), b1, b2)
            ((⟨(0 : Int), a1.size, a1.zone, (((Z3a a1.source b1 b2 b3 b4).1).tag)⟩ : XRes), (mset (k := .str) (v := (.int .i64)) b1 a1.zone (IntKind.i64.wrap (((mget (k := .str) (v := (.int .i64)) b1 a1.zone).getD default) - a1.size))), (vset b2 a1.target ⟨a1.size, a1.zone, (((Z3a a1.source b1 b2 b3 b4).1).tag), []⟩)))))))
def dD_createR (a1 : XCall) (b1 : LA) (b2 : LB) (b3 : LC) (b4 : LD) : RT :=
 (.ask ((vget b2 a1.target).isSome)
   (.ask (decide ((((vget b2 a1.target).getD default).size) < a1.size))
     (.leaf .ret ⟨Z9 112 [(4, .ptr 5 0)], (.cells 102 [.map 1, .map 2, .map 3, .map 4] :: oM b1 b2 b3 b4 [.cells 52 [.int .i64 12, .int .i64 0, .str (⟨#[]⟩ : BA), .int .u64 0]])⟩ [0, 1, 2, 3, 4, 6])
     (.leaf .ret ⟨Z9 112 [(4, .ptr 5 0)], (.cells 102 [.map 1, .map 2, .map 3, .map 4] :: oM b1 b2 b3 b4 [.cells 52 [.int .i64 0, .int .i64 (((vget b2 a1.target).getD default).size), .str (((vget b2 a1.target).getD default).zone), .int .u64 (((vget b2 a1.target).getD default).tag)]])⟩ [0, 1, 2, 3, 4, 6]))
   (.ask (!((mget (k := .str) (v := (.int .i64)) b1 a1.zone).isSome))
     (.leaf .ret ⟨Z9 112 [(4, .ptr 5 0)], (.cells 102 [.map 1, .map 2, .map 3, .map 4] :: oM b1 b2 b3 b4 [.cells 52 [.int .i64 5, .int .i64 0, .str (⟨#[]⟩ : BA), .int .u64 0]])⟩ [0, 1, 2, 3, 4, 6])
     (.ask (!(((Z3a a1.source b1 b2 b3 b4).2) == (0 : Int)))
       (.leaf .ret ⟨Z9 112 [(4, .ptr 5 0)], (.cells 102 [.map 1, .map 2, .map 3, .map 4] :: oM b1 b2 b3 b4 [.cells 52 [.int .i64 ((Z3a a1.source b1 b2 b3 b4).2), .int .i64 0, .str (⟨#[]⟩ : BA), .int .u64 0]])⟩ [0, 1, 2, 3, 4, 6])
       (.ask (decide ((((Z3a a1.source b1 b2 b3 b4).1).size) > a1.size))
         (.leaf .ret ⟨Z9 112 [(4, .ptr 5 0)], (.cells 102 [.map 1, .map 2, .map 3, .map 4] :: oM b1 b2 b3 b4 [.cells 52 [.int .i64 12, .int .i64 0, .str (⟨#[]⟩ : BA), .int .u64 0]])⟩ [0, 1, 2, 3, 4, 6])
         (.ask (decide ((b2.length : Int) ≥ (64 : Int)))
           (.leaf .ret ⟨Z9 112 [(4, .ptr 5 0)], (.cells 102 [.map 1, .map 2, .map 3, .map 4] :: oM b1 b2 b3 b4 [.cells 52 [.int .i64 7, .int .i64 0, .str (⟨#[]⟩ : BA), .int .u64 0]])⟩ [0, 1, 2, 3, 4, 6])
           (.ask (decide (((mget (k := .str) (v := (.int .i64)) b1 a1.zone).getD default) < a1.size))
             (.leaf .ret ⟨Z9 112 [(4, .ptr 5 0)], (.cells 102 [.map 1, .map 2, .map 3, .map 4] :: oM b1 b2 b3 b4 [.cells 52 [.int .i64 11, .int .i64 0, .str (⟨#[]⟩ : BA), .int .u64 0]])⟩ [0, 1, 2, 3, 4, 6])
             (.leaf .ret ⟨Z9 112 [(4, .ptr 5 0)], (.cells 102 [.map 1, .map 2, .map 3, .map 4] :: oM (mset (k := .str) (v := (.int .i64)) b1 a1.zone (IntKind.i64.wrap (((mget (k := .str) (v := (.int .i64)) b1 a1.zone).getD default) - a1.size))) (vset b2 a1.target ⟨a1.size, a1.zone, (((Z3a a1.source b1 b2 b3 b4).1).tag), []⟩) b3 b4 [.cells 52 [.int .i64 0, .int .i64 a1.size, .str a1.zone, .int .u64 (((Z3a a1.source b1 b2 b3 b4).1).tag)]])⟩ [0, 1, 2, 3, 4, 6])))))))
theorem dD_createF_tr (a1 : XCall) (b1 : LA) (b2 : LB) (b3 : LC) (b4 : LD)  : Tr Try.prog 5 (Z3b Try.f90) (Z25 Try.f90 [.ptr 0 0, .agg (cc a1)] (.cells 102 [.map 1, .map 2, .map 3, .map 4] :: oM b1 b2 b3 b4 [])) (Z46 Try.prog Try.f90 (.agg [.int .i64 (((Z24 a1 b1 b2 b3 b4).1).err), .int .i64 (((Z24 a1 b1 b2 b3 b4).1).size), .str (((Z24 a1 b1 b2 b3 b4).1).zone), .int .u64 (((Z24 a1 b1 b2 b3 b4).1).tag)]) (.cells 102 [.map 1, .map 2, .map 3, .map 4] :: oM ((Z24 a1 b1 b2 b3 b4).2.1) ((Z24 a1 b1 b2 b3 b4).2.2) b3 b4 [])) := by
 refine Z2f (kok _ _ _ _ _ _) (E := E_dD_create) (L := Z30) 60 9999 Z13.none (dD_createR a1 b1 b2 b3 b4) (by kernel_rfl) (by kernel_rfl) (by kernel_rfl) ?_
 unfold dD_createR
 refine ⟨fun h0 => ?_, fun h0 => ?_⟩
 · refine ⟨fun h1 => ?_, fun h1 => ?_⟩
   · have hF : Z24 a1 b1 b2 b3 b4 = ((⟨(12 : Int), (0 : Int), (⟨#[]⟩ : BA), (0 : Int)⟩ : XRes), b1, b2) := by first | exact (Z11 h0 (Z11 h1 rfl)) | simp only [Z24, h0, h1, cond_true, cond_false]
     exact ⟨trivial, .inl (by (try rw [hF]); kernel_rfl), by (try rw [hF]); kernel_rfl⟩
   · have hF : Z24 a1 b1 b2 b3 b4 = ((⟨(0 : Int), (((vget b2 a1.target).getD default).size), ((vget b2 a1.target).getD default).zone, (((vget b2 a1.target).getD default).tag)⟩ : XRes), b1, b2) := by first | exact (Z11 h0 (Z3 h1 rfl)) | simp only [Z24, h0, h1, cond_true, cond_false]
     exact ⟨trivial, .inl (by (try rw [hF]); kernel_rfl), by (try rw [hF]); kernel_rfl⟩
 · refine ⟨fun h1 => ?_, fun h1 => ?_⟩
   · have hF : Z24 a1 b1 b2 b3 b4 = ((⟨(5 : Int), (0 : Int), (⟨#[]⟩ : BA), (0 : Int)⟩ : XRes), b1, b2) := by first | exact (Z3 h0 (Z11 h1 rfl)) | simp only [Z24, h0, h1, cond_true, cond_false]
     exact ⟨trivial, .inl (by (try rw [hF]); kernel_rfl), by (try rw [hF]); kernel_rfl⟩
   · refine ⟨fun h2 => ?_, fun h2 => ?_⟩
     · have hF : Z24 a1 b1 b2 b3 b4 = ((⟨((Z3a a1.source b1 b2 b3 b4).2), (0 : Int), (⟨#[]⟩ : BA), (0 : Int)⟩ : XRes), b1, b2) := by first | exact (Z3 h0 (Z3 h1 (Z11 h2 rfl))) | simp only [Z24, h0, h1, h2, cond_true, cond_false]
       exact ⟨trivial, .inl (by (try rw [hF]); kernel_rfl), by (try rw [hF]); kernel_rfl⟩
     · refine ⟨fun h3 => ?_, fun h3 => ?_⟩
       · have hF : Z24 a1 b1 b2 b3 b4 = ((⟨(12 : Int), (0 : Int), (⟨#[]⟩ : BA), (0 : Int)⟩ : XRes), b1, b2) := by first | exact (Z3 h0 (Z3 h1 (Z3 h2 (Z11 h3 rfl)))) | simp only [Z24, h0, h1, h2, h3, cond_true, cond_false]
         exact ⟨trivial, .inl (by (try rw [hF]); kernel_rfl), by (try rw [hF]); kernel_rfl⟩
       · refine ⟨fun h4 => ?_, fun h4 => ?_⟩
         · have hF : Z24 a1 b1 b2 b3 b4 = ((⟨(7 : Int), (0 : Int), (⟨#[]⟩ : BA), (0 : Int)⟩ : XRes), b1, b2) := by first | exact (Z3 h0 (Z3 h1 (Z3 h2 (Z3 h3 (Z11 h4 rfl))))) | simp only [Z24, h0, h1, h2, h3, h4, cond_true, cond_false]
           exact ⟨trivial, .inl (by (try rw [hF]); kernel_rfl), by (try rw [hF]); kernel_rfl⟩
         · refine ⟨fun h5 => ?_, fun h5 => ?_⟩
           · have hF : Z24 a1 b1 b2 b3 b4 = ((⟨(11 : Int), (0 : Int), (⟨#[]⟩ : BA), (0 : Int)⟩ : XRes), b1, b2) := by first | exact (Z3 h0 (Z3 h1 (Z3 h2 (Z3 h3 (Z3 h4 (Z11 h5 rfl)))))) | simp only [Z24, h0, h1, h2, h3, h4, h5, cond_true, cond_false]
             exact ⟨trivial, .inl (by (try rw [hF]); kernel_rfl), by (try rw [hF]); kernel_rfl⟩
           · have hF : Z24 a1 b1 b2 b3 b4 = ((⟨(0 : Int), a1.size, a1.zone, (((Z3a a1.source b1 b2 b3 b4).1).tag)⟩ : XRes), (mset (k := .str) (v := (.int .i64)) b1 a1.zone (IntKind.i64.wrap (((mget (k := .str) (v := (.int .i64)) b1 a1.zone).getD default) - a1.size))), (vset b2 a1.target ⟨a1.size, a1.zone, (((Z3a a1.source b1 b2 b3 b4).1).tag), []⟩)) := by first | exact (Z3 h0 (Z3 h1 (Z3 h2 (Z3 h3 (Z3 h4 (Z3 h5 rfl)))))) | simp only [Z24, h0, h1, h2, h3, h4, h5, cond_true, cond_false]
             exact ⟨trivial, .inl (by (try rw [hF]); kernel_rfl), by (try rw [hF]); kernel_rfl⟩
noncomputable def dD_create_fact0 : Fact Try.prog := Z4f 90 Try.f90 (by kernel_rfl) rfl (by kernel_rfl) [.c (.ptr 0 0), .st .call] [.cells 102 [.map 1, .map 2, .map 3, .map 4], .map .str (.int .i64), .vols, .map .str .sn, .map .tgt .done] false (fun t u => .agg [.int .i64 (((Z24 t.2.1 u.2.1 u.2.2.1 u.2.2.2.1 u.2.2.2.2.1).1).err), .int .i64 (((Z24 t.2.1 u.2.1 u.2.2.1 u.2.2.2.1 u.2.2.2.2.1).1).size), .str (((Z24 t.2.1 u.2.1 u.2.2.1 u.2.2.2.1 u.2.2.2.2.1).1).zone), .int .u64 (((Z24 t.2.1 u.2.1 u.2.2.1 u.2.2.2.1 u.2.2.2.2.1).1).tag)]) (fun t u => (.cells 102 [.map 1, .map 2, .map 3, .map 4] :: oM ((Z24 t.2.1 u.2.1 u.2.2.1 u.2.2.2.1 u.2.2.2.2.1).2.1) ((Z24 t.2.1 u.2.1 u.2.2.1 u.2.2.2.1 u.2.2.2.2.1).2.2) (u.2.2.2.1) (u.2.2.2.2.1) [])) (fun t u => [])
 (nofun) (fun t u => by kernel_rfl) (fun t u => by kernel_rfl) (fun t u h => dD_createF_tr t.2.1 u.2.1 u.2.2.1 u.2.2.2.1 u.2.2.2.2.1 )
noncomputable def dD_create_fact : Fact Try.prog := Z88 dD_create_fact0 [.c (.ptr 0 0), .st .call] [.cells 102 [.map 1, .map 2, .map 3, .map 4], .map .str (.int .i64), .vols, .map .str .sn, .map .tgt .done] (fun t u => .agg [.int .i64 (((Z24 t.2.1 u.2.1 u.2.2.1 u.2.2.2.1 u.2.2.2.2.1).1).err), .int .i64 (((Z24 t.2.1 u.2.1 u.2.2.1 u.2.2.2.1 u.2.2.2.2.1).1).size), .str (((Z24 t.2.1 u.2.1 u.2.2.1 u.2.2.2.1 u.2.2.2.2.1).1).zone), .int .u64 (((Z24 t.2.1 u.2.1 u.2.2.1 u.2.2.2.1 u.2.2.2.2.1).1).tag)]) (fun t u => (.cells 102 [.map 1, .map 2, .map 3, .map 4] :: oM ((Z24 t.2.1 u.2.1 u.2.2.1 u.2.2.2.1 u.2.2.2.2.1).2.1) ((Z24 t.2.1 u.2.1 u.2.2.1 u.2.2.2.1 u.2.2.2.2.1).2.2) (u.2.2.2.1) (u.2.2.2.2.1) [])) (fun t u => []) rfl [0, 3, 4] (by
 intro t u k hk
 simp only [List.mem_cons, List.not_mem_nil, or_false] at hk
 rcases hk with rfl | rfl | rfl
 all_goals exact ⟨by decide, rfl⟩)
noncomputable def E_dD_expand : Env := Z62 (P := Try.prog) [] [] [] ckf
def Z28 (a1 : XCall) (b1 : LA) (b2 : LB) (b3 : LC) (b4 : LD) : XRes × LA × LB :=
 cond (!((vget b2 a1.target).isSome))
  ((⟨(5 : Int), (0 : Int), (⟨#[]⟩ : BA), (0 : Int)⟩ : XRes), b1, b2)
  (cond (decide ((IntKind.i64.wrap (a1.size - (((vget b2 a1.target).getD default).size))) > (0 : Int)))
    (cond (decide (((mget (k := .str) (v := (.int .i64)) b1 (((vget b2 a1.target).getD default).zone)).getD default) < (IntKind.i64.wrap (a1.size - (((vget b2 a1.target).getD default).size)))))
      ((⟨(11 : Int), (0 : Int), (⟨#[]⟩ : BA), (0 : Int)⟩ : XRes), b1, b2)
      ((⟨(0 : Int), a1.size, (⟨#[]⟩ : BA), (0 : Int)⟩ : XRes), (mset (k := .str) (v := (.int .i64)) b1 (((vget b2 a1.target).getD default).zone) (IntKind.i64.wrap (((mget (k := .str) (v := (.int .i64)) b1 (((vget b2 a1.target).getD default).zone)).getD default) - (IntKind.i64.wrap (a1.size - (((vget b2 a1.target).getD default).size)))))), (vset b2 a1.target ⟨a1.size, ((vget b2 a1.target).getD default).zone, (((vget b2 a1.target).getD default).tag), ((vget b2 a1.target).getD default).nodes⟩)))
    ((⟨(0 : Int), (((vget b2 a1.target).getD default).size), (⟨#[]⟩ : BA), (0 : Int)⟩ : XRes), b1, b2))
def dD_expandR (a1 : XCall) (b1 : LA) (b2 : LB) (b3 : LC) (b4 : LD) : RT :=
 (.ask (!((vget b2 a1.target).isSome))
   (.leaf .ret ⟨Z9 60 [(4, .ptr 5 0)], (.cells 102 [.map 1, .map 2, .map 3, .map 4] :: oM b1 b2 b3 b4 [.cells 52 [.int .i64 5, .int .i64 0, .str (⟨#[]⟩ : BA), .int .u64 0]])⟩ [0, 1, 2, 3, 4, 6])
   (.ask (decide ((IntKind.i64.wrap (a1.size - (((vget b2 a1.target).getD default).size))) > (0 : Int)))
     (.ask (decide (((mget (k := .str) (v := (.int .i64)) b1 (((vget b2 a1.target).getD default).zone)).getD default) < (IntKind.i64.wrap (a1.size - (((vget b2 a1.target).getD default).size)))))
       (.leaf .ret ⟨Z9 60 [(4, .ptr 5 0)], (.cells 102 [.map 1, .map 2, .map 3, .map 4] :: oM b1 b2 b3 b4 [.cells 52 [.int .i64 11, .int .i64 0, .str (⟨#[]⟩ : BA), .int .u64 0]])⟩ [0, 1, 2, 3, 4, 6])
       (.need [a1.target = a1.target ∧ (vget b2 a1.target).isSome = true ∧ (vget b2 a1.target).isSome = true]
         (.leaf .ret ⟨Z9 60 [(4, .ptr 5 0)], (.cells 102 [.map 1, .map 2, .map 3, .map 4] :: oM (mset (k := .str) (v := (.int .i64)) b1 (((vget b2 a1.target).getD default).zone) (IntKind.i64.wrap (((mget (k := .str) (v := (.int .i64)) b1 (((vget b2 a1.target).getD default).zone)).getD default) - (IntKind.i64.wrap (a1.size - (((vget b2 a1.target).getD default).size)))))) (vset b2 a1.target ⟨a1.size, ((vget b2 a1.target).getD default).zone, (((vget b2 a1.target).getD default).tag), ((vget b2 a1.target).getD default).nodes⟩) b3 b4 [.cells 52 [.int .i64 0, .int .i64 a1.size, .str (⟨#[]⟩ : BA), .int .u64 0]])⟩ [0, 1, 2, 3, 4, 6])))
     (.leaf .ret ⟨Z9 60 [(4, .ptr 5 0)], (.cells 102 [.map 1, .map 2, .map 3, .map 4] :: oM b1 b2 b3 b4 [.cells 52 [.int .i64 0, .int .i64 (((vget b2 a1.target).getD default).size), .str (⟨#[]⟩ : BA), .int .u64 0]])⟩ [0, 1, 2, 3, 4, 6])))
theorem dD_expandF_tr (a1 : XCall) (b1 : LA) (b2 : LB) (b3 : LC) (b4 : LD)  : Tr Try.prog 5 (Z3b Try.f91) (Z25 Try.f91 [.ptr 0 0, .agg (cc a1)] (.cells 102 [.map 1, .map 2, .map 3, .map 4] :: oM b1 b2 b3 b4 [])) (Z46 Try.prog Try.f91 (.agg [.int .i64 (((Z28 a1 b1 b2 b3 b4).1).err), .int .i64 (((Z28 a1 b1 b2 b3 b4).1).size), .str (((Z28 a1 b1 b2 b3 b4).1).zone), .int .u64 (((Z28 a1 b1 b2 b3 b4).1).tag)]) (.cells 102 [.map 1, .map 2, .map 3, .map 4] :: oM ((Z28 a1 b1 b2 b3 b4).2.1) ((Z28 a1 b1 b2 b3 b4).2.2) b3 b4 [])) := by
 refine Z2f (kok _ _ _ _ _ _) (E := E_dD_expand) (L := Z30) 60 9999 Z13.none (dD_expandR a1 b1 b2 b3 b4) (by kernel_rfl) (by kernel_rfl) (by kernel_rfl) ?_
 unfold dD_expandR
 refine ⟨fun h0 => ?_, fun h0 => ?_⟩
 · have hF : Z28 a1 b1 b2 b3 b4 = ((⟨(5 : Int), (0 : Int), (⟨#[]⟩ : BA), (0 : Int)⟩ : XRes), b1, b2) := by first | exact (Z11 h0 rfl) | simp only [Z28, h0, cond_true, cond_false]
   exact ⟨trivial, .inl (by (try rw [hF]); kernel_rfl), by (try rw [hF]); kernel_rfl⟩
 · refine ⟨fun h1 => ?_, fun h1 => ?_⟩
   · refine ⟨fun h2 => ?_, fun h2 => ?_⟩
     · have hF : Z28 a1 b1 b2 b3 b4 = ((⟨(11 : Int), (0 : Int), (⟨#[]⟩ : BA), (0 : Int)⟩ : XRes), b1, b2) := by first | exact (Z3 h0 (Z11 h1 (Z11 h2 rfl))) | simp only [Z28, h0, h1, h2, cond_true, cond_false]
       exact ⟨trivial, .inl (by (try rw [hF]); kernel_rfl), by (try rw [hF]); kernel_rfl⟩
     · refine ⟨Z2 (by first | rfl | exact ⟨rfl, h0, h0⟩ | exact ⟨rfl, h1, h1⟩ | exact ⟨h0, h0⟩ | exact ⟨h1, h1⟩ | (simp_all; done)) (Z7), ?_⟩
       have hF : Z28 a1 b1 b2 b3 b4 = ((⟨(0 : Int), a1.size, (⟨#[]⟩ : BA), (0 : Int)⟩ : XRes), (mset (k := .str) (v := (.int .i64)) b1 (((vget b2 a1.target).getD default).zone) (IntKind.i64.wrap (((mget (k := .str) (v := (.int .i64)) b1 (((vget b2 a1.target).getD default).zone)).getD default) - (IntKind.i64.wrap (a1.size - (((vget b2 a1.target).getD default).size)))))), (vset b2 a1.target ⟨a1.size, ((vget b2 a1.target).getD default).zone, (((vget b2 a1.target).getD default).tag), ((vget b2 a1.target).getD default).nodes⟩)) := by first | exact (Z3 h0 (Z11 h1 (Z3 h2 rfl))) | simp only [Z28, h0, h1, h2, cond_true, cond_false]
       exact ⟨trivial, .inl (by (try rw [hF]); kernel_rfl), by (try rw [hF]); kernel_rfl⟩
   · have hF : Z28 a1 b1 b2 b3 b4 = ((⟨(0 : Int), (((vget b2 a1.target).getD default).size), (⟨#[]⟩ : BA), (0 : Int)⟩ : XRes), b1, b2) := by first | exact (Z3 h0 (Z3 h1 rfl)) | simp only [Z28, h0, h1, cond_true, cond_false]
     exact ⟨trivial, .inl (by (try rw [hF]); kernel_rfl), by (try rw [hF]); kernel_rfl⟩
noncomputable def dD_expand_fact0 : Fact Try.prog := Z4f 91 Try.f91 (by kernel_rfl) rfl (by kernel_rfl) [.c (.ptr 0 0), .st .call] [.cells 102 [.map 1, .map 2, .map 3, .map 4], .map .str (.int .i64), .vols, .map .str .sn, .map .tgt .done] false (fun t u => .agg [.int .i64 (((Z28 t.2.1 u.2.1 u.2.2.1 u.2.2.2.1 u.2.2.2.2.1).1).err), .int .i64 (((Z28 t.2.1 u.2.1 u.2.2.1 u.2.2.2.1 u.2.2.2.2.1).1).size), .str (((Z28 t.2.1 u.2.1 u.2.2.1 u.2.2.2.1 u.2.2.2.2.1).1).zone), .int .u64 (((Z28 t.2.1 u.2.1 u.2.2.1 u.2.2.2.1 u.2.2.2.2.1).1).tag)]) (fun t u => (.cells 102 [.map 1, .map 2, .map 3, .map 4] :: oM ((Z28 t.2.1 u.2.1 u.2.2.1 u.2.2.2.1 u.2.2.2.2.1).2.1) ((Z28 t.2.1 u.2.1 u.2.2.1 u.2.2.2.1 u.2.2.2.2.1).2.2) (u.2.2.2.1) (u.2.2.2.2.1) [])) (fun t u => [])
 (nofun) (fun t u => by kernel_rfl) (fun t u => by kernel_rfl) (fun t u h => dD_expandF_tr t.2.1 u.2.1 u.2.2.1 u.2.2.2.1 u.2.2.2.2.1 )
noncomputable def dD_expand_fact : Fact Try.prog := Z88 dD_expand_fact0 [.c (.ptr 0 0), .st .call] [.cells 102 [.map 1, .map 2, .map 3, .map 4], .map .str (.int .i64), .vols, .map .str .sn, .map .tgt .done] (fun t u => .agg [.int .i64 (((Z28 t.2.1 u.2.1 u.2.2.1 u.2.2.2.1 u.2.2.2.2.1).1).err), .int .i64 (((Z28 t.2.1 u.2.1 u.2.2.1 u.2.2.2.1 u.2.2.2.2.1).1).size), .str (((Z28 t.2.1 u.2.1 u.2.2.1 u.2.2.2.1 u.2.2.2.2.1).1).zone), .int .u64 (((Z28 t.2.1 u.2.1 u.2.2.1 u.2.2.2.1 u.2.2.2.2.1).1).tag)]) (fun t u => (.cells 102 [.map 1, .map 2, .map 3, .map 4] :: oM ((Z28 t.2.1 u.2.1 u.2.2.1 u.2.2.2.1 u.2.2.2.2.1).2.1) ((Z28 t.2.1 u.2.1 u.2.2.1 u.2.2.2.1 u.2.2.2.2.1).2.2) (u.2.2.2.1) (u.2.2.2.2.1) [])) (fun t u => []) rfl [0, 3, 4] (by
 intro t u k hk
 simp only [List.mem_cons, List.not_mem_nil, or_false] at hk
 rcases hk with rfl | rfl | rfl
 all_goals exact ⟨by decide, rfl⟩)
noncomputable def E_dD_cut : Env := Z62 (P := Try.prog) [] [] [] ckf
def Z5a (a1 : XCall) (b1 : LA) (b2 : LB) (b3 : LC) (b4 : LD) : XRes × LC :=
 cond (!((mget (k := .str) (v := .sn) b3 a1.target).isSome))
  (cond (!((vget b2 a1.source).isSome))
    ((⟨(5 : Int), (0 : Int), (⟨#[]⟩ : BA), (0 : Int)⟩ : XRes), b3)
    (cond (decide ((b3.length : Int) ≥ (64 : Int)))
      ((⟨(7 : Int), (0 : Int), (⟨#[]⟩ : BA), (0 : Int)⟩ : XRes), b3)
      ((⟨(0 : Int), (((vget b2 a1.source).getD default).size), (⟨#[]⟩ : BA), (((vget b2 a1.source).getD default).tag)⟩ : XRes), (mset (k := .str) (v := .sn) b3 a1.target (⟨(((vget b2 a1.source).getD default).size), (((vget b2 a1.source).getD default).tag)⟩ : XSn)))))
  ((⟨(0 : Int), (((mget (k := .str) (v := .sn) b3 a1.target).getD default).size), (⟨#[]⟩ : BA), (((mget (k := .str) (v := .sn) b3 a1.target).getD default).tag)⟩ : XRes), b3)
def dD_cutR (a1 : XCall) (b1 : LA) (b2 : LB) (b3 : LC) (b4 : LD) : RT :=
 (.ask (!((mget (k := .str) (v := .sn) b3 a1.target).isSome))
   (.ask (!((vget b2 a1.source).isSome))
     (.leaf .ret ⟨Z9 60 [(4, .ptr 5 0)], (.cells 102 [.map 1, .map 2, .map 3, .map 4] :: oM b1 b2 b3 b4 [.cells 52 [.int .i64 5, .int .i64 0, .str (⟨#[]⟩ : BA), .int .u64 0]])⟩ [0, 1, 2, 3, 4, 6])
     (.ask (decide ((b3.length : Int) ≥ (64 : Int)))
       (.leaf .ret ⟨Z9 60 [(4, .ptr 5 0)], (.cells 102 [.map 1, .map 2, .map 3, .map 4] :: oM b1 b2 b3 b4 [.cells 52 [.int .i64 7, .int .i64 0, .str (⟨#[]⟩ : BA), .int .u64 0]])⟩ [0, 1, 2, 3, 4, 6])
       (.leaf .ret ⟨Z9 60 [(4, .ptr 5 0)], (.cells 102 [.map 1, .map 2, .map 3, .map 4] :: oM b1 b2 (mset (k := .str) (v := .sn) b3 a1.target (⟨(((vget b2 a1.source).getD default).size), (((vget b2 a1.source).getD default).tag)⟩ : XSn)) b4 [.cells 52 [.int .i64 0, .int .i64 (((vget b2 a1.source).getD default).size), .str (⟨#[]⟩ : BA), .int .u64 (((vget b2 a1.source).getD default).tag)]])⟩ [0, 1, 2, 3, 4, 6])))
   (.leaf .ret ⟨Z9 60 [(4, .ptr 5 0)], (.cells 102 [.map 1, .map 2, .map 3, .map 4] :: oM b1 b2 b3 b4 [.cells 52 [.int .i64 0, .int .i64 (((mget (k := .str) (v := .sn) b3 a1.target).getD default).size), .str (⟨#[]⟩ : BA), .int .u64 (((mget (k := .str) (v := .sn) b3 a1.target).getD default).tag)]])⟩ [0, 1, 2, 3, 4, 6]))
theorem dD_cutF_tr (a1 : XCall) (b1 : LA) (b2 : LB) (b3 : LC) (b4 : LD)  : Tr Try.prog 5 (Z3b Try.f92) (Z25 Try.f92 [.ptr 0 0, .agg (cc a1)] (.cells 102 [.map 1, .map 2, .map 3, .map 4] :: oM b1 b2 b3 b4 [])) (Z46 Try.prog Try.f92 (.agg [.int .i64 (((Z5a a1 b1 b2 b3 b4).1).err), .int .i64 (((Z5a a1 b1 b2 b3 b4).1).size), .str (((Z5a a1 b1 b2 b3 b4).1).zone), .int .u64 (((Z5a a1 b1 b2 b3 b4).1).tag)]) (.cells 102 [.map 1, .map 2, .map 3, .map 4] :: oM b1 b2 ((Z5a a1 b1 b2 b3 b4).2) b4 [])) := by
 refine Z2f (kok _ _ _ _ _ _) (E := E_dD_cut) (L := Z30) 60 9999 Z13.none (dD_cutR a1 b1 b2 b3 b4) (by kernel_rfl) (by kernel_rfl) (by kernel_rfl) ?_
 unfold dD_cutR
 refine ⟨fun h0 => ?_, fun h0 => ?_⟩
 · refine ⟨fun h1 => ?_, fun h1 => ?_⟩
   · have hF : Z5a a1 b1 b2 b3 b4 = ((⟨(5 : Int), (0 : Int), (⟨#[]⟩ : BA), (0 : Int)⟩ : XRes), b3) := by first | exact (Z11 h0 (Z11 h1 rfl)) | simp only [Z5a, h0, h1, cond_true, cond_false]
     exact ⟨trivial, .inl (by (try rw [hF]); kernel_rfl), by (try rw [hF]); kernel_rfl⟩
   · refine ⟨fun h2 => ?_, fun h2 => ?_⟩
     · have hF : Z5a a1 b1 b2 b3 b4 = ((⟨(7 : Int), (0 : Int), (⟨#[]⟩ : BA), (0 : Int)⟩ : XRes), b3) := by first | exact (Z11 h0 (Z3 h1 (Z11 h2 rfl))) | simp only [Z5a, h0, h1, h2, cond_true, cond_false]
       exact ⟨trivial, .inl (by (try rw [hF]); kernel_rfl), by (try rw [hF]); kernel_rfl⟩
     · have hF : Z5a a1 b1 b2 b3 b4 = ((⟨(0 : Int), (((vget b2 a1.source).getD default).size), (⟨#[]⟩ : BA), (((vget b2 a1.source).getD default).tag)⟩ : XRes), (mset (k := .str) (v := .sn) b3 a1.target (⟨(((vget b2 a1.source).getD default).size), (((vget b2 a1.source).getD default).tag)⟩ : XSn))) := by first | exact (Z11 h0 (Z3 h1 (Z3 h2 rfl))) | simp only [Z5a, h0, h1, h2, cond_true, cond_false]
       exact ⟨trivial, .inl (by (try rw [hF]); kernel_rfl), by (try rw [hF]); kernel_rfl⟩
 · have hF : Z5a a1 b1 b2 b3 b4 = ((⟨(0 : Int), (((mget (k := .str) (v := .sn) b3 a1.target).getD default).size), (⟨#[]⟩ : BA), (((mget (k := .str) (v := .sn) b3 a1.target).getD default).tag)⟩ : XRes), b3) := by first | exact (Z3 h0 rfl) | simp only [Z5a, h0, cond_true, cond_false]
   exact ⟨trivial, .inl (by (try rw [hF]); kernel_rfl), by (try rw [hF]); kernel_rfl⟩
noncomputable def dD_cut_fact0 : Fact Try.prog := Z4f 92 Try.f92 (by kernel_rfl) rfl (by kernel_rfl) [.c (.ptr 0 0), .st .call] [.cells 102 [.map 1, .map 2, .map 3, .map 4], .map .str (.int .i64), .vols, .map .str .sn, .map .tgt .done] false (fun t u => .agg [.int .i64 (((Z5a t.2.1 u.2.1 u.2.2.1 u.2.2.2.1 u.2.2.2.2.1).1).err), .int .i64 (((Z5a t.2.1 u.2.1 u.2.2.1 u.2.2.2.1 u.2.2.2.2.1).1).size), .str (((Z5a t.2.1 u.2.1 u.2.2.1 u.2.2.2.1 u.2.2.2.2.1).1).zone), .int .u64 (((Z5a t.2.1 u.2.1 u.2.2.1 u.2.2.2.1 u.2.2.2.2.1).1).tag)]) (fun t u => (.cells 102 [.map 1, .map 2, .map 3, .map 4] :: oM (u.2.1) (u.2.2.1) ((Z5a t.2.1 u.2.1 u.2.2.1 u.2.2.2.1 u.2.2.2.2.1).2) (u.2.2.2.2.1) [])) (fun t u => [])
 (nofun) (fun t u => by kernel_rfl) (fun t u => by kernel_rfl) (fun t u h => dD_cutF_tr t.2.1 u.2.1 u.2.2.1 u.2.2.2.1 u.2.2.2.2.1 )
noncomputable def dD_cut_fact : Fact Try.prog := Z88 dD_cut_fact0 [.c (.ptr 0 0), .st .call] [.cells 102 [.map 1, .map 2, .map 3, .map 4], .map .str (.int .i64), .vols, .map .str .sn, .map .tgt .done] (fun t u => .agg [.int .i64 (((Z5a t.2.1 u.2.1 u.2.2.1 u.2.2.2.1 u.2.2.2.2.1).1).err), .int .i64 (((Z5a t.2.1 u.2.1 u.2.2.1 u.2.2.2.1 u.2.2.2.2.1).1).size), .str (((Z5a t.2.1 u.2.1 u.2.2.1 u.2.2.2.1 u.2.2.2.2.1).1).zone), .int .u64 (((Z5a t.2.1 u.2.1 u.2.2.1 u.2.2.2.1 u.2.2.2.2.1).1).tag)]) (fun t u => (.cells 102 [.map 1, .map 2, .map 3, .map 4] :: oM (u.2.1) (u.2.2.1) ((Z5a t.2.1 u.2.1 u.2.2.1 u.2.2.2.1 u.2.2.2.2.1).2) (u.2.2.2.2.1) [])) (fun t u => []) rfl [0, 1, 2, 4] (by
 intro t u k hk
 simp only [List.mem_cons, List.not_mem_nil, or_false] at hk
 rcases hk with rfl | rfl | rfl | rfl
 all_goals exact ⟨by decide, rfl⟩)
noncomputable def E_dD_act : Env := Z62 (P := Try.prog) [dD_create_fact, dD_expand_fact, dD_cut_fact] [] [] ckf
def Z17 (a1 : XCall) (b1 : LA) (b2 : LB) (b3 : LC) (b4 : LD) : XRes × LA × LB × LC :=
 cond (a1.verb == (1 : Int))
  (((Z24 a1 b1 b2 b3 b4).1), (Z24 a1 b1 b2 b3 b4).2.1, (Z24 a1 b1 b2 b3 b4).2.2, b3)
  (cond (a1.verb == (5 : Int))
    (((Z28 a1 b1 b2 b3 b4).1), (Z28 a1 b1 b2 b3 b4).2.1, (Z28 a1 b1 b2 b3 b4).2.2, b3)
    (cond (a1.verb == (6 : Int))
      (((Z5a a1 b1 b2 b3 b4).1), b1, b2, (Z5a a1 b1 b2 b3 b4).2)
      (cond (a1.verb == (7 : Int))
        ((default : XRes), b1, b2, (mdel (k := .str) (v := .sn) b3 a1.target))
        (cond (a1.verb == (2 : Int))
          (cond (decide (((((vget b2 a1.target).map fun v => v.nodes.length).getD 0 : Nat) : Int) > (0 : Int)))
            ((⟨(10 : Int), (0 : Int), (⟨#[]⟩ : BA), (0 : Int)⟩ : XRes), b1, b2, b3)
            (cond ((vget b2 a1.target).isSome)
              ((default : XRes), (mset (k := .str) (v := (.int .i64)) b1 (((vget b2 a1.target).getD default).zone) (IntKind.i64.wrap (((mget (k := .str) (v := (.int .i64)) b1 (((vget b2 a1.target).getD default).zone)).getD default) + (((vget b2 a1.target).getD default).size)))), (vdel b2 a1.target), b3)
              ((default : XRes), b1, b2, b3)))
          (cond (a1.verb == (3 : Int))
            (cond (!((vget b2 a1.target).isSome))
              ((⟨(5 : Int), (0 : Int), (⟨#[]⟩ : BA), (0 : Int)⟩ : XRes), b1, b2, b3)
              ((default : XRes), b1, (vmod b2 a1.target fun l => mset (k := .str) (v := .bool) l a1.node true), b3))
            (cond (a1.verb == (4 : Int))
              ((default : XRes), b1, (vmod b2 a1.target fun l => mdel (k := .str) (v := .bool) l a1.node), b3)
              ((default : XRes), b1, b2, b3)))))))
def dD_actR (a1 : XCall) (b1 : LA) (b2 : LB) (b3 : LC) (b4 : LD) : RT :=
 (.ask (a1.verb == (1 : Int))
   (.leaf .ret ⟨Z9 82 [(4, .ptr 5 0)], (.cells 102 [.map 1, .map 2, .map 3, .map 4] :: oM ((Z24 a1 b1 b2 b3 b4).2.1) ((Z24 a1 b1 b2 b3 b4).2.2) b3 b4 [.cells 52 [.int .i64 (((Z24 a1 b1 b2 b3 b4).1).err), .int .i64 (((Z24 a1 b1 b2 b3 b4).1).size), .str (((Z24 a1 b1 b2 b3 b4).1).zone), .int .u64 (((Z24 a1 b1 b2 b3 b4).1).tag)]])⟩ [0, 1, 2, 3, 4, 6])
   (.ask (a1.verb == (5 : Int))
     (.leaf .ret ⟨Z9 82 [(4, .ptr 5 0)], (.cells 102 [.map 1, .map 2, .map 3, .map 4] :: oM ((Z28 a1 b1 b2 b3 b4).2.1) ((Z28 a1 b1 b2 b3 b4).2.2) b3 b4 [.cells 52 [.int .i64 (((Z28 a1 b1 b2 b3 b4).1).err), .int .i64 (((Z28 a1 b1 b2 b3 b4).1).size), .str (((Z28 a1 b1 b2 b3 b4).1).zone), .int .u64 (((Z28 a1 b1 b2 b3 b4).1).tag)]])⟩ [0, 1, 2, 3, 4, 6])
     (.ask (a1.verb == (6 : Int))
       (.leaf .ret ⟨Z9 82 [(4, .ptr 5 0)], (.cells 102 [.map 1, .map 2, .map 3, .map 4] :: oM b1 b2 ((Z5a a1 b1 b2 b3 b4).2) b4 [.cells 52 [.int .i64 (((Z5a a1 b1 b2 b3 b4).1).err), .int .i64 (((Z5a a1 b1 b2 b3 b4).1).size), .str (((Z5a a1 b1 b2 b3 b4).1).zone), .int .u64 (((Z5a a1 b1 b2 b3 b4).1).tag)]])⟩ [0, 1, 2, 3, 4, 6])
       (.ask (a1.verb == (7 : Int))
         (.leaf .ret ⟨Z9 82 [(4, .ptr 5 0)], (.cells 102 [.map 1, .map 2, .map 3, .map 4] :: oM b1 b2 (mdel (k := .str) (v := .sn) b3 a1.target) b4 [.cells 52 [.int .i64 0, .int .i64 0, .str (⟨#[]⟩ : BA), .int .u64 0]])⟩ [0, 1, 2, 3, 4, 6])
         (.ask (a1.verb == (2 : Int))
           (.need [(vget b2 a1.target).isSome = (vget b2 a1.target).isSome]
             (.ask (decide (((((vget b2 a1.target).map fun v => v.nodes.length).getD 0 : Nat) : Int) > (0 : Int)))
               (.leaf .ret ⟨Z9 82 [(4, .ptr 5 0)], (.cells 102 [.map 1, .map 2, .map 3, .map 4] :: oM b1 b2 b3 b4 [.cells 52 [.int .i64 10, .int .i64 0, .str (⟨#[]⟩ : BA), .int .u64 0]])⟩ [0, 1, 2, 3, 4, 6])
               (.ask ((vget b2 a1.target).isSome)
                 (.leaf .ret ⟨Z9 82 [(4, .ptr 5 0)], (.cells 102 [.map 1, .map 2, .map 3, .map 4] :: oM (mset (k := .str) (v := (.int .i64)) b1 (((vget b2 a1.target).getD default).zone) (IntKind.i64.wrap (((mget (k := .str) (v := (.int .i64)) b1 (((vget b2 a1.target).getD default).zone)).getD default) + (((vget b2 a1.target).getD default).size)))) (vdel b2 a1.target) b3 b4 [.cells 52 [.int .i64 0, .int .i64 0, .str (⟨#[]⟩ : BA), .int .u64 0]])⟩ [0, 1, 2, 3, 4, 6])
                 (.leaf .ret ⟨Z9 82 [(4, .ptr 5 0)], (.cells 102 [.map 1, .map 2, .map 3, .map 4] :: oM b1 b2 b3 b4 [.cells 52 [.int .i64 0, .int .i64 0, .str (⟨#[]⟩ : BA), .int .u64 0]])⟩ [0, 1, 2, 3, 4, 6]))))
           (.ask (a1.verb == (3 : Int))
             (.ask (!((vget b2 a1.target).isSome))
               (.leaf .ret ⟨Z9 82 [(4, .ptr 5 0)], (.cells 102 [.map 1, .map 2, .map 3, .map 4] :: oM b1 b2 b3 b4 [.cells 52 [.int .i64 5, .int .i64 0, .str (⟨#[]⟩ : BA), .int .u64 0]])⟩ [0, 1, 2, 3, 4, 6])
               (.need [(vget b2 a1.target).isSome = true ∧ (vget b2 a1.target).isSome = true]
                 (.leaf .ret ⟨Z9 82 [(4, .ptr 5 0)], (.cells 102 [.map 1, .map 2, .map 3, .map 4] :: oM b1 (vmod b2 a1.target fun l => mset (k := .str) (v := .bool) l a1.node true) b3 b4 [.cells 52 [.int .i64 0, .int .i64 0, .str (⟨#[]⟩ : BA), .int .u64 0]])⟩ [0, 1, 2, 3, 4, 6])))
             (.ask (a1.verb == (4 : Int))
               (.need [(vget b2 a1.target).isSome = (vget b2 a1.target).isSome]
                 (.leaf .ret ⟨Z9 82 [(4, .ptr 5 0)], (.cells 102 [.map 1, .map 2, .map 3, .map 4] :: oM b1 (vmod b2 a1.target fun l => mdel (k := .str) (v := .bool) l a1.node) b3 b4 [.cells 52 [.int .i64 0, .int .i64 0, .str (⟨#[]⟩ : BA), .int .u64 0]])⟩ [0, 1, 2, 3, 4, 6]))
               (.leaf .ret ⟨Z9 82 [(4, .ptr 5 0)], (.cells 102 [.map 1, .map 2, .map 3, .map 4] :: oM b1 b2 b3 b4 [.cells 52 [.int .i64 0, .int .i64 0, .str (⟨#[]⟩ : BA), .int .u64 0]])⟩ [0, 1, 2, 3, 4, 6]))))))))
theorem dD_actF_tr (a1 : XCall) (b1 : LA) (b2 : LB) (b3 : LC) (b4 : LD)  : Tr Try.prog 5 (Z3b Try.f59) (Z25 Try.f59 [.ptr 0 0, .agg (cc a1)] (.cells 102 [.map 1, .map 2, .map 3, .map 4] :: oM b1 b2 b3 b4 [])) (Z46 Try.prog Try.f59 (.agg [.int .i64 (((Z17 a1 b1 b2 b3 b4).1).err), .int .i64 (((Z17 a1 b1 b2 b3 b4).1).size), .str (((Z17 a1 b1 b2 b3 b4).1).zone), .int .u64 (((Z17 a1 b1 b2 b3 b4).1).tag)]) (.cells 102 [.map 1, .map 2, .map 3, .map 4] :: oM ((Z17 a1 b1 b2 b3 b4).2.1) ((Z17 a1 b1 b2 b3 b4).2.2.1) ((Z17 a1 b1 b2 b3 b4).2.2.2) b4 [])) := by
 refine Z2f (kok _ _ _ _ _ _) (E := E_dD_act) (L := Z30) 60 9999 Z13.none (dD_actR a1 b1 b2 b3 b4) (by kernel_rfl) (by kernel_rfl) (by kernel_rfl) ?_
 unfold dD_actR
 refine ⟨fun h0 => ?_, fun h0 => ?_⟩
 · have hF : Z17 a1 b1 b2 b3 b4 = (((Z24 a1 b1 b2 b3 b4).1), (Z24 a1 b1 b2 b3 b4).2.1, (Z24 a1 b1 b2 b3 b4).2.2, b3) := by first | exact (Z11 h0 rfl) | simp only [Z17, h0, cond_true, cond_false]
   exact ⟨trivial, .inl (by (try rw [hF]); kernel_rfl), by (try rw [hF]); kernel_rfl⟩
 · refine ⟨fun h1 => ?_, fun h1 => ?_⟩
   · have hF : Z17 a1 b1 b2 b3 b4 = (((Z28 a1 b1 b2 b3 b4).1), (Z28 a1 b1 b2 b3 b4).2.1, (Z28 a1 b1 b2 b3 b4).2.2, b3) := by first | exact (Z3 h0 (Z11 h1 rfl)) | simp only [Z17, h0, h1, cond_true, cond_false]
     exact ⟨trivial, .inl (by (try rw [hF]); kernel_rfl), by (try rw [hF]); kernel_rfl⟩
   · refine ⟨fun h2 => ?_, fun h2 => ?_⟩
     · have hF : Z17 a1 b1 b2 b3 b4 = (((Z5a a1 b1 b2 b3 b4).1), b1, b2, (Z5a a1 b1 b2 b3 b4).2) := by first | exact (Z3 h0 (Z3 h1 (Z11 h2 rfl))) | simp only [Z17, h0, h1, h2, cond_true, cond_false]
       exact ⟨trivial, .inl (by (try rw [hF]); kernel_rfl), by (try rw [hF]); kernel_rfl⟩
     · refine ⟨fun h3 => ?_, fun h3 => ?_⟩
       · have hF : Z17 a1 b1 b2 b3 b4 = ((default : XRes), b1, b2, (mdel (k := .str) (v := .sn) b3 a1.target)) := by first | exact (Z3 h0 (Z3 h1 (Z3 h2 (Z11 h3 rfl)))) | simp only [Z17, h0, h1, h2, h3, cond_true, cond_false]
         exact ⟨trivial, .inl (by (try rw [hF]); kernel_rfl), by (try rw [hF]); kernel_rfl⟩
       · refine ⟨fun h4 => ?_, fun h4 => ?_⟩
         · refine ⟨Z2 (by first | rfl | exact ⟨rfl, h0, h0⟩ | exact ⟨rfl, h1, h1⟩ | exact ⟨h0, h0⟩ | exact ⟨h1, h1⟩ | (simp_all; done)) (Z7), ?_⟩
           refine ⟨fun h5 => ?_, fun h5 => ?_⟩
           · have hF : Z17 a1 b1 b2 b3 b4 = ((⟨(10 : Int), (0 : Int), (⟨#[]⟩ : BA), (0 : Int)⟩ : XRes), b1, b2, b3) := by first | exact (Z3 h0 (Z3 h1 (Z3 h2 (Z3 h3 (Z11 h4 (Z11 h5 rfl)))))) | simp only [Z17, h0, h1, h2, h3, h4, h5, cond_true, cond_false]
             exact ⟨trivial, .inl (by (try rw [hF]); kernel_rfl), by (try rw [hF]); kernel_rfl⟩
           · refine ⟨fun h6 => ?_, fun h6 => ?_⟩
             · have hF : Z17 a1 b1 b2 b3 b4 = ((default : XRes), (mset (k := .str) (v := (.int .i64)) b1 (((vget b2 a1.target).getD default).zone) (IntKind.i64.wrap (((mget (k := .str) (v := (.int .i64)) b1 (((vget b2 a1.target).getD default).zone)).getD default) + (((vget b2 a1.target).getD default).size)))), (vdel b2 a1.target), b3) := by first | exact (Z3 h0 (Z3 h1 (Z3 h2 (Z3 h3 (Z11 h4 (Z3 h5 (Z11 h6 rfl))))))) | simp only [Z17, h0, h1, h2, h3, h4, h5, h6, cond_true, cond_false]
               exact ⟨trivial, .inl (by (try rw [hF]); kernel_rfl), by (try rw [hF]); kernel_rfl⟩
             · have hF : Z17 a1 b1 b2 b3 b4 = ((default : XRes), b1, b2, b3) := by first | exact (Z3 h0 (Z3 h1 (Z3 h2 (Z3 h3 (Z11 h4 (Z3 h5 (Z3 h6 rfl))))))) | simp only [Z17, h0, h1, h2, h3, h4, h5, h6, cond_true, cond_false]
               exact ⟨trivial, .inl (by (try rw [hF]); kernel_rfl), by (try rw [hF]); kernel_rfl⟩
         · refine ⟨fun h5 => ?_, fun h5 => ?_⟩
           · refine ⟨fun h6 => ?_, fun h6 => ?_⟩
             · have hF : Z17 a1 b1 b2 b3 b4 = ((⟨(5 : Int), (0 : Int), (⟨#[]⟩ : BA), (0 : Int)⟩ : XRes), b1, b2, b3) := by first | exact (Z3 h0 (Z3 h1 (Z3 h2 (Z3 h3 (Z3 h4 (Z11 h5 (Z11 h6 rfl))))))) | simp only [Z17, h0, h1, h2, h3, h4, h5, h6, cond_true, cond_false]
               exact ⟨trivial, .inl (by (try rw [hF]); kernel_rfl), by (try rw [hF]); kernel_rfl⟩
             · refine ⟨Z2 (by first | rfl | exact ⟨rfl, h0, h0⟩ | exact ⟨rfl, h1, h1⟩ | exact ⟨h0, h0⟩ | exact ⟨h1, h1⟩ | (simp_all; done)) (Z7), ?_⟩
               have hF : Z17 a1 b1 b2 b3 b4 = ((default : XRes), b1, (vmod b2 a1.target fun l => mset (k := .str) (v := .bool) l a1.node true), b3) := by first | exact (Z3 h0 (Z3 h1 (Z3 h2 (Z3 h3 (Z3 h4 (Z11 h5 (Z3 h6 rfl))))))) | simp only [Z17, h0, h1, h2, h3, h4, h5, h6, cond_true, cond_false]
               exact ⟨trivial, .inl (by (try rw [hF]); kernel_rfl), by (try rw [hF]); kernel_rfl⟩
           · refine ⟨fun h6 => ?_, fun h6 => ?_⟩
             · refine ⟨Z2 (by first | rfl | exact ⟨rfl, h0, h0⟩ | exact ⟨rfl, h1, h1⟩ | exact ⟨h0, h0⟩ | exact ⟨h1, h1⟩ | (simp_all; done)) (Z7), ?_⟩
               have hF : Z17 a1 b1 b2 b3 b4 = ((default : XRes), b1, (vmod b2 a1.target fun l => mdel (k := .str) (v := .bool) l a1.node), b3) := by first | exact (Z3 h0 (Z3 h1 (Z3 h2 (Z3 h3 (Z3 h4 (Z3 h5 (Z11 h6 rfl))))))) | simp only [Z17, h0, h1, h2, h3, h4, h5, h6, cond_true, cond_false]
               exact ⟨trivial, .inl (by (try rw [hF]); kernel_rfl), by (try rw [hF]); kernel_rfl⟩
             · have hF : Z17 a1 b1 b2 b3 b4 = ((default : XRes), b1, b2, b3) := by first | exact (Z3 h0 (Z3 h1 (Z3 h2 (Z3 h3 (Z3 h4 (Z3 h5 (Z3 h6 rfl))))))) | simp only [Z17, h0, h1, h2, h3, h4, h5, h6, cond_true, cond_false]
               exact ⟨trivial, .inl (by (try rw [hF]); kernel_rfl), by (try rw [hF]); kernel_rfl⟩
noncomputable def dD_act_fact0 : Fact Try.prog := Z4f 59 Try.f59 (by kernel_rfl) rfl (by kernel_rfl) [.c (.ptr 0 0), .st .call] [.cells 102 [.map 1, .map 2, .map 3, .map 4], .map .str (.int .i64), .vols, .map .str .sn, .map .tgt .done] false (fun t u => .agg [.int .i64 (((Z17 t.2.1 u.2.1 u.2.2.1 u.2.2.2.1 u.2.2.2.2.1).1).err), .int .i64 (((Z17 t.2.1 u.2.1 u.2.2.1 u.2.2.2.1 u.2.2.2.2.1).1).size), .str (((Z17 t.2.1 u.2.1 u.2.2.1 u.2.2.2.1 u.2.2.2.2.1).1).zone), .int .u64 (((Z17 t.2.1 u.2.1 u.2.2.1 u.2.2.2.1 u.2.2.2.2.1).1).tag)]) (fun t u => (.cells 102 [.map 1, .map 2, .map 3, .map 4] :: oM ((Z17 t.2.1 u.2.1 u.2.2.1 u.2.2.2.1 u.2.2.2.2.1).2.1) ((Z17 t.2.1 u.2.1 u.2.2.1 u.2.2.2.1 u.2.2.2.2.1).2.2.1) ((Z17 t.2.1 u.2.1 u.2.2.1 u.2.2.2.1 u.2.2.2.2.1).2.2.2) (u.2.2.2.2.1) [])) (fun t u => [])
 (nofun) (fun t u => by kernel_rfl) (fun t u => by kernel_rfl) (fun t u h => dD_actF_tr t.2.1 u.2.1 u.2.2.1 u.2.2.2.1 u.2.2.2.2.1 )
noncomputable def dD_act_fact : Fact Try.prog := Z88 dD_act_fact0 [.c (.ptr 0 0), .st .call] [.cells 102 [.map 1, .map 2, .map 3, .map 4], .map .str (.int .i64), .vols, .map .str .sn, .map .tgt .done] (fun t u => .agg [.int .i64 (((Z17 t.2.1 u.2.1 u.2.2.1 u.2.2.2.1 u.2.2.2.2.1).1).err), .int .i64 (((Z17 t.2.1 u.2.1 u.2.2.1 u.2.2.2.1 u.2.2.2.2.1).1).size), .str (((Z17 t.2.1 u.2.1 u.2.2.1 u.2.2.2.1 u.2.2.2.2.1).1).zone), .int .u64 (((Z17 t.2.1 u.2.1 u.2.2.1 u.2.2.2.1 u.2.2.2.2.1).1).tag)]) (fun t u => (.cells 102 [.map 1, .map 2, .map 3, .map 4] :: oM ((Z17 t.2.1 u.2.1 u.2.2.1 u.2.2.2.1 u.2.2.2.2.1).2.1) ((Z17 t.2.1 u.2.1 u.2.2.1 u.2.2.2.1 u.2.2.2.2.1).2.2.1) ((Z17 t.2.1 u.2.1 u.2.2.1 u.2.2.2.1 u.2.2.2.2.1).2.2.2) (u.2.2.2.2.1) [])) (fun t u => []) rfl [0, 4] (by
 intro t u k hk
 simp only [List.mem_cons, List.not_mem_nil, or_false] at hk
 rcases hk with rfl | rfl
 all_goals exact ⟨by decide, rfl⟩)
end Go.Proofs.Ytpffbkbadnhmmaa
