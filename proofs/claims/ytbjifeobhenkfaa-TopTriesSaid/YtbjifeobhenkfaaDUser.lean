/- Objects that a user may make; what is left out. -/
import Derived.Test.YtbjifeobhenkfaaDRight
set_option linter.unusedVariables false
set_option linter.unusedSimpArgs false
set_option maxRecDepth 100000
namespace Go.Proofs.Ytbjifeobhenkfaa
open Go Go.Eng
noncomputable def E_object_User : Env := envOf (P := Try.prog) [object_Right_fact] [] [] ckf
def object_UserF (a0 : XObj) : Bool :=
 cond (cond (!(object_RightF a0)) true a0.deleting)
  false
  (cond (cond (cond (cond (!(a0.version == (0 : Int))) true (!(a0.born == (0 : Int)))) true (!(a0.num == (0 : Int)))) true (!(a0.tag == (0 : Int))))
    false
    (cond (a0.kind == (3 : Int))
      (cond (cond (a0.phase == (1 : Int)) (decide ((a0.node ++ a0.zone) = (⟨#[]⟩ : ByteArray))) false) (a0.got == (0 : Int)) false)
      (cond (a0.kind == (4 : Int))
        (cond (cond (a0.phase == (4 : Int)) (decide (a0.claim = (⟨#[]⟩ : ByteArray))) false) (a0.got == a0.size) false)
        (cond (a0.kind == (6 : Int))
          (decide (a0.node = (⟨#[]⟩ : ByteArray)))
          (cond (a0.kind == (7 : Int))
            (cond (cond (a0.phase == (1 : Int)) (decide (a0.volume = (⟨#[]⟩ : ByteArray))) false) (a0.got == (0 : Int)) false)
            (!(a0.kind == (5 : Int))))))))
def object_UserR (a0 : XObj) : RT :=
 (.need [a0.Fine]
   (.ask (cond (!(object_RightF a0)) true a0.deleting)
     (.leaf .ret ⟨slots 88 [(2, .bool false)], []⟩ [])
     (.ask (cond (cond (cond (!(a0.version == (0 : Int))) true (!(a0.born == (0 : Int)))) true (!(a0.num == (0 : Int)))) true (!(a0.tag == (0 : Int))))
       (.leaf .ret ⟨slots 88 [(2, .bool false)], []⟩ [])
       (.ask (a0.kind == (3 : Int))
         (.need [((a0.phase == (1 : Int)) = true) → (a0.node.size + a0.zone.size ≤ 9223372036854775807)]
           (.leaf .ret ⟨slots 88 [(2, .bool (cond (cond (a0.phase == (1 : Int)) (decide ((a0.node ++ a0.zone) = (⟨#[]⟩ : ByteArray))) false) (a0.got == (0 : Int)) false))], []⟩ []))
         (.ask (a0.kind == (4 : Int))
           (.leaf .ret ⟨slots 88 [(2, .bool (cond (cond (a0.phase == (4 : Int)) (decide (a0.claim = (⟨#[]⟩ : ByteArray))) false) (a0.got == a0.size) false))], []⟩ [])
           (.ask (a0.kind == (6 : Int))
             (.leaf .ret ⟨slots 88 [(2, .bool (decide (a0.node = (⟨#[]⟩ : ByteArray))))], []⟩ [])
             (.ask (a0.kind == (7 : Int))
               (.leaf .ret ⟨slots 88 [(2, .bool (cond (cond (a0.phase == (1 : Int)) (decide (a0.volume = (⟨#[]⟩ : ByteArray))) false) (a0.got == (0 : Int)) false))], []⟩ [])
               (.leaf .ret ⟨slots 88 [(2, .bool (!(a0.kind == (5 : Int))))], []⟩ []))))))))
theorem object_UserF_tr (a0 : XObj) (hp0 : a0.Fine) : Tr Try.prog 0 (bodyOf Try.f14) (fnBegins Try.f14 [.agg [.int .u8 a0.kind, .str a0.name, .int .u64 a0.version, .int .u64 a0.born, .bool a0.deleting, .bool a0.hold, .str a0.cls, .int .i64 a0.size, .int .i64 a0.got, .int .u8 a0.mode, .bool a0.keep, .bool a0.wait, .str a0.zone, .str a0.node, .str a0.claim, .str a0.volume, .str a0.source, .int .u8 a0.phase, .int .u64 a0.num, .int .u64 a0.tag]] []) (fnEnds Try.prog Try.f14 (.bool (object_UserF a0)) []) := by
 refine Tr_tree (kok _ _ _ _ _ _) (E := E_object_User) (L := noLoops) 60 9999 LoopsOk.none (object_UserR a0) (by kernel_rfl) (by kernel_rfl) (by kernel_rfl) ?_
 unfold object_UserR
 refine ⟨need_cons (by (try refine fun (_ : _ = _) => ?_); (try refine fun (_ : _ ∧ _) => ?_); first | rfl | (have hz := hp0; unfold XObj.Fine at hz; omega) | exact fine_texts hp0 | exact hp0 | decide | (simp only [List.length_cons, List.length_nil]; omega)) (need_nil), ?_⟩
 refine ⟨fun h0 => ?_, fun h0 => ?_⟩
 · have hF : object_UserF a0 = false := by first | exact (cond_t h0 rfl) | simp only [object_UserF, h0, cond_true, cond_false]
   exact ⟨trivial, .inl (by first | (rw [hF]; kernel_rfl) | kernel_rfl), by first | (rw [hF]; kernel_rfl) | kernel_rfl⟩
 · refine ⟨fun h1 => ?_, fun h1 => ?_⟩
   · have hF : object_UserF a0 = false := by first | exact (cond_f h0 (cond_t h1 rfl)) | simp only [object_UserF, h0, h1, cond_true, cond_false]
     exact ⟨trivial, .inl (by first | (rw [hF]; kernel_rfl) | kernel_rfl), by first | (rw [hF]; kernel_rfl) | kernel_rfl⟩
   · refine ⟨fun h2 => ?_, fun h2 => ?_⟩
     · refine ⟨need_cons (by (try refine fun (_ : _ = _) => ?_); (try refine fun (_ : _ ∧ _) => ?_); first | rfl | (have hz := hp0; unfold XObj.Fine at hz; omega) | exact fine_texts hp0 | exact hp0 | decide | (simp only [List.length_cons, List.length_nil]; omega)) (need_nil), ?_⟩
       have hF : object_UserF a0 = (cond (cond (a0.phase == (1 : Int)) (decide ((a0.node ++ a0.zone) = (⟨#[]⟩ : ByteArray))) false) (a0.got == (0 : Int)) false) := by first | exact (cond_f h0 (cond_f h1 (cond_t h2 rfl))) | simp only [object_UserF, h0, h1, h2, cond_true, cond_false]
       exact ⟨trivial, .inl (by first | (rw [hF]; kernel_rfl) | kernel_rfl), by first | (rw [hF]; kernel_rfl) | kernel_rfl⟩
     · refine ⟨fun h3 => ?_, fun h3 => ?_⟩
       · have hF : object_UserF a0 = (cond (cond (a0.phase == (4 : Int)) (decide (a0.claim = (⟨#[]⟩ : ByteArray))) false) (a0.got == a0.size) false) := by first | exact (cond_f h0 (cond_f h1 (cond_f h2 (cond_t h3 rfl)))) | simp only [object_UserF, h0, h1, h2, h3, cond_true, cond_false]
         exact ⟨trivial, .inl (by first | (rw [hF]; kernel_rfl) | kernel_rfl), by first | (rw [hF]; kernel_rfl) | kernel_rfl⟩
       · refine ⟨fun h4 => ?_, fun h4 => ?_⟩
         · have hF : object_UserF a0 = (decide (a0.node = (⟨#[]⟩ : ByteArray))) := by first | exact (cond_f h0 (cond_f h1 (cond_f h2 (cond_f h3 (cond_t h4 rfl))))) | simp only [object_UserF, h0, h1, h2, h3, h4, cond_true, cond_false]
           exact ⟨trivial, .inl (by first | (rw [hF]; kernel_rfl) | kernel_rfl), by first | (rw [hF]; kernel_rfl) | kernel_rfl⟩
         · refine ⟨fun h5 => ?_, fun h5 => ?_⟩
           · have hF : object_UserF a0 = (cond (cond (a0.phase == (1 : Int)) (decide (a0.volume = (⟨#[]⟩ : ByteArray))) false) (a0.got == (0 : Int)) false) := by first | exact (cond_f h0 (cond_f h1 (cond_f h2 (cond_f h3 (cond_f h4 (cond_t h5 rfl)))))) | simp only [object_UserF, h0, h1, h2, h3, h4, h5, cond_true, cond_false]
             exact ⟨trivial, .inl (by first | (rw [hF]; kernel_rfl) | kernel_rfl), by first | (rw [hF]; kernel_rfl) | kernel_rfl⟩
           · have hF : object_UserF a0 = (!(a0.kind == (5 : Int))) := by first | exact (cond_f h0 (cond_f h1 (cond_f h2 (cond_f h3 (cond_f h4 (cond_f h5 rfl)))))) | simp only [object_UserF, h0, h1, h2, h3, h4, h5, cond_true, cond_false]
             exact ⟨trivial, .inl (by first | (rw [hF]; kernel_rfl) | kernel_rfl), by first | (rw [hF]; kernel_rfl) | kernel_rfl⟩
noncomputable def object_User_fact : Fact Try.prog := factOf 14 Try.f14 (by kernel_rfl) rfl (by kernel_rfl) [.st .obj] [] true (fun t u => .bool (object_UserF t.1)) (fun t u => []) (fun t u => [t.1.Fine])
 (fun _ _ _ => rfl) (fun t u => by kernel_rfl) (fun t u => by kernel_rfl) (fun t u h => object_UserF_tr t.1 (h _ List.mem_cons_self))
end Go.Proofs.Ytbjifeobhenkfaa
