/- The law TopMarks. -/
import Derived.Test.YtbjifeobhenkfaaDObj
set_option linter.unusedVariables false
set_option linter.unusedSimpArgs false
set_option maxRecDepth 100000
namespace Go.Proofs.Ytbjifeobhenkfaa
open Go Go.Eng
noncomputable def E_t_TopMarks : Env := envOf (P := Try.prog) [codec_Object_fact, object_User_fact] [] [] ckf true
def t_TopMarksF (a0 : XObj) : Bool :=
 cond (!(((codec_ObjectF a0).1) == (0 : Int)))
  (cond (cond (((codec_ObjectF a0).1) == (2 : Int)) (((codec_ObjectF ({ a0 with deleting := !a0.deleting } : XObj)).1) == (2 : Int)) false) (!(object_UserF a0)) false)
  (cond (cond (cond (((codec_ObjectF ({ a0 with deleting := !a0.deleting } : XObj)).1) == (0 : Int)) ((((codec_ObjectF a0).2).length : Int) == (((codec_ObjectF ({ a0 with deleting := !a0.deleting } : XObj)).2).length : Int)) false) (!(decide ((bytesStr ((codec_ObjectF a0).2)) = (bytesStr ((codec_ObjectF ({ a0 with deleting := !a0.deleting } : XObj)).2))))) false) (cond (!(object_UserF a0)) true (!(object_UserF ({ a0 with deleting := !a0.deleting } : XObj)))) false)
def t_TopMarksR (a0 : XObj) : RT :=
 (.need [a0.Fine, Rng a0]
   (.need [({ a0 with deleting := !a0.deleting } : XObj).Fine, Rng ({ a0 with deleting := !a0.deleting } : XObj)]
     (.ask (!(((codec_ObjectF a0).1) == (0 : Int)))
       (.need [((cond (((codec_ObjectF a0).1) == (2 : Int)) (((codec_ObjectF ({ a0 with deleting := !a0.deleting } : XObj)).1) == (2 : Int)) false) = true) → (a0.Fine)]
         (.leaf .ret ⟨slots 62 [(2, .bool (cond (cond (((codec_ObjectF a0).1) == (2 : Int)) (((codec_ObjectF ({ a0 with deleting := !a0.deleting } : XObj)).1) == (2 : Int)) false) (!(object_UserF a0)) false))], []⟩ []))
       (.need [((cond (cond (((codec_ObjectF ({ a0 with deleting := !a0.deleting } : XObj)).1) == (0 : Int)) ((((codec_ObjectF a0).2).length : Int) == (((codec_ObjectF ({ a0 with deleting := !a0.deleting } : XObj)).2).length : Int)) false) (!(decide ((bytesStr ((codec_ObjectF a0).2)) = (bytesStr ((codec_ObjectF ({ a0 with deleting := !a0.deleting } : XObj)).2))))) false) = true) → (a0.Fine)]
         (.need [(((cond (cond (((codec_ObjectF ({ a0 with deleting := !a0.deleting } : XObj)).1) == (0 : Int)) ((((codec_ObjectF a0).2).length : Int) == (((codec_ObjectF ({ a0 with deleting := !a0.deleting } : XObj)).2).length : Int)) false) (!(decide ((bytesStr ((codec_ObjectF a0).2)) = (bytesStr ((codec_ObjectF ({ a0 with deleting := !a0.deleting } : XObj)).2))))) false) = true) ∧ (!(object_UserF a0)) = false) → (({ a0 with deleting := !a0.deleting } : XObj).Fine)]
           (.leaf .ret ⟨slots 62 [(2, .bool (cond (cond (cond (((codec_ObjectF ({ a0 with deleting := !a0.deleting } : XObj)).1) == (0 : Int)) ((((codec_ObjectF a0).2).length : Int) == (((codec_ObjectF ({ a0 with deleting := !a0.deleting } : XObj)).2).length : Int)) false) (!(decide ((bytesStr ((codec_ObjectF a0).2)) = (bytesStr ((codec_ObjectF ({ a0 with deleting := !a0.deleting } : XObj)).2))))) false) (cond (!(object_UserF a0)) true (!(object_UserF ({ a0 with deleting := !a0.deleting } : XObj)))) false))], []⟩ []))))))
theorem t_TopMarksF_tr (a0 : XObj) (hp0 : a0.Fine) (hp1 : Rng a0) : Tr Try.prog 0 (bodyOf Try.f4) (fnBegins Try.f4 [.agg [.int .u8 a0.kind, .str a0.name, .int .u64 a0.version, .int .u64 a0.born, .bool a0.deleting, .bool a0.hold, .str a0.cls, .int .i64 a0.size, .int .i64 a0.got, .int .u8 a0.mode, .bool a0.keep, .bool a0.wait, .str a0.zone, .str a0.node, .str a0.claim, .str a0.volume, .str a0.source, .int .u8 a0.phase, .int .u64 a0.num, .int .u64 a0.tag]] []) (fnEnds Try.prog Try.f4 (.bool (t_TopMarksF a0)) []) := by
 refine Tr_tree (kok _ _ _ _ _ _) (E := E_t_TopMarks) (L := noLoops) 60 9999 LoopsOk.none (t_TopMarksR a0) (by kernel_rfl) (by kernel_rfl) (by kernel_rfl) ?_
 unfold t_TopMarksR
 refine ⟨need_cons (by (try refine fun (_ : _ = _) => ?_); (try refine fun (_ : _ ∧ _) => ?_); first | exact hp0 | exact hp1) (need_cons (by (try refine fun (_ : _ = _) => ?_); (try refine fun (_ : _ ∧ _) => ?_); first | exact hp0 | exact hp1) (need_nil)), ?_⟩
 refine ⟨need_cons (by (try refine fun (_ : _ = _) => ?_); (try refine fun (_ : _ ∧ _) => ?_); first | exact hp0 | exact hp1) (need_cons (by (try refine fun (_ : _ = _) => ?_); (try refine fun (_ : _ ∧ _) => ?_); first | exact hp0 | exact hp1) (need_nil)), ?_⟩
 refine ⟨fun h0 => ?_, fun h0 => ?_⟩
 · refine ⟨need_cons (by (try refine fun (_ : _ = _) => ?_); (try refine fun (_ : _ ∧ _) => ?_); first | exact hp0 | exact hp1) (need_nil), ?_⟩
   have hF : t_TopMarksF a0 = (cond (cond (((codec_ObjectF a0).1) == (2 : Int)) (((codec_ObjectF ({ a0 with deleting := !a0.deleting } : XObj)).1) == (2 : Int)) false) (!(object_UserF a0)) false) := by first | exact (cond_t h0 rfl) | simp only [t_TopMarksF, h0, cond_true, cond_false]
   exact ⟨trivial, .inl (by first | (rw [hF]; kernel_rfl) | kernel_rfl), by first | (rw [hF]; kernel_rfl) | kernel_rfl⟩
 · refine ⟨need_cons (by (try refine fun (_ : _ = _) => ?_); (try refine fun (_ : _ ∧ _) => ?_); first | exact hp0 | exact hp1) (need_nil), ?_⟩
   refine ⟨need_cons (by (try refine fun (_ : _ = _) => ?_); (try refine fun (_ : _ ∧ _) => ?_); first | exact hp0 | exact hp1) (need_nil), ?_⟩
   have hF : t_TopMarksF a0 = (cond (cond (cond (((codec_ObjectF ({ a0 with deleting := !a0.deleting } : XObj)).1) == (0 : Int)) ((((codec_ObjectF a0).2).length : Int) == (((codec_ObjectF ({ a0 with deleting := !a0.deleting } : XObj)).2).length : Int)) false) (!(decide ((bytesStr ((codec_ObjectF a0).2)) = (bytesStr ((codec_ObjectF ({ a0 with deleting := !a0.deleting } : XObj)).2))))) false) (cond (!(object_UserF a0)) true (!(object_UserF ({ a0 with deleting := !a0.deleting } : XObj)))) false) := by first | exact (cond_f h0 rfl) | simp only [t_TopMarksF, h0, cond_true, cond_false]
   exact ⟨trivial, .inl (by first | (rw [hF]; kernel_rfl) | kernel_rfl), by first | (rw [hF]; kernel_rfl) | kernel_rfl⟩
end Go.Proofs.Ytbjifeobhenkfaa
