/- Attach: what must be, whatever is asked. -/
import Derived.Test.YtbcnehpndoghcaaDRVolume
set_option linter.unusedVariables false
set_option linter.unusedSimpArgs false
set_option maxRecDepth 100000
namespace Go.Proofs.Ytbcnehpndoghcaa
open Go Go.Eng
noncomputable def E_w13_world : Env := envOf (P := Try.prog) [] [] [] ckf
def w13_worldF  : List XObj :=
  [(⟨(3 : Int), (⟨#[99]⟩ : ByteArray), (0 : Int), (0 : Int), false, false, (⟨#[102]⟩ : ByteArray), (4 : Int), (0 : Int), (1 : Int), false, false, (⟨#[]⟩ : ByteArray), (⟨#[]⟩ : ByteArray), (⟨#[]⟩ : ByteArray), (⟨#[118]⟩ : ByteArray), (⟨#[]⟩ : ByteArray), (3 : Int), (0 : Int), (0 : Int)⟩ : XObj), (⟨(4 : Int), (⟨#[118]⟩ : ByteArray), (0 : Int), (0 : Int), false, false, (⟨#[102]⟩ : ByteArray), (4 : Int), (4 : Int), (1 : Int), false, false, (⟨#[122]⟩ : ByteArray), (⟨#[]⟩ : ByteArray), (⟨#[99, 35, 49]⟩ : ByteArray), (⟨#[]⟩ : ByteArray), (⟨#[]⟩ : ByteArray), (3 : Int), (0 : Int), (0 : Int)⟩ : XObj), (⟨(6 : Int), (⟨#[112]⟩ : ByteArray), (0 : Int), (0 : Int), false, false, (⟨#[]⟩ : ByteArray), (0 : Int), (0 : Int), (0 : Int), false, false, (⟨#[]⟩ : ByteArray), (⟨#[110]⟩ : ByteArray), (⟨#[99]⟩ : ByteArray), (⟨#[]⟩ : ByteArray), (⟨#[]⟩ : ByteArray), (0 : Int), (0 : Int), (0 : Int)⟩ : XObj)]
def w13_worldR  : RT :=
  (.leaf .ret ⟨slots 5 [(0, .vec 0)], [.vec false ⟨.obj, [(⟨(3 : Int), (⟨#[99]⟩ : ByteArray), (0 : Int), (0 : Int), false, false, (⟨#[102]⟩ : ByteArray), (4 : Int), (0 : Int), (1 : Int), false, false, (⟨#[]⟩ : ByteArray), (⟨#[]⟩ : ByteArray), (⟨#[]⟩ : ByteArray), (⟨#[118]⟩ : ByteArray), (⟨#[]⟩ : ByteArray), (3 : Int), (0 : Int), (0 : Int)⟩ : XObj), (⟨(4 : Int), (⟨#[118]⟩ : ByteArray), (0 : Int), (0 : Int), false, false, (⟨#[102]⟩ : ByteArray), (4 : Int), (4 : Int), (1 : Int), false, false, (⟨#[122]⟩ : ByteArray), (⟨#[]⟩ : ByteArray), (⟨#[99, 35, 49]⟩ : ByteArray), (⟨#[]⟩ : ByteArray), (⟨#[]⟩ : ByteArray), (3 : Int), (0 : Int), (0 : Int)⟩ : XObj), (⟨(6 : Int), (⟨#[112]⟩ : ByteArray), (0 : Int), (0 : Int), false, false, (⟨#[]⟩ : ByteArray), (0 : Int), (0 : Int), (0 : Int), false, false, (⟨#[]⟩ : ByteArray), (⟨#[110]⟩ : ByteArray), (⟨#[99]⟩ : ByteArray), (⟨#[]⟩ : ByteArray), (⟨#[]⟩ : ByteArray), (0 : Int), (0 : Int), (0 : Int)⟩ : XObj)]⟩]⟩ [1])
theorem w13_worldF_tr   : Tr Try.prog 0 (bodyOf Try.f22) (fnBegins Try.f22 [] []) (fnEnds Try.prog Try.f22 (.vec 0) [.vec false ⟨.obj, w13_worldF⟩]) := by
  refine Tr_tree (kok _ _ _ _ _ _) (E := E_w13_world) (L := noLoops) 60 9999 LoopsOk.none (w13_worldR ) (by kernel_rfl) (by kernel_rfl) (by kernel_rfl) ?_
  unfold w13_worldR
  exact ⟨trivial, .inl (by kernel_rfl), by kernel_rfl⟩
noncomputable def w13_world_fact : Fact Try.prog := factOf 22 Try.f22 (by kernel_rfl) rfl (by kernel_rfl) [] [] false (fun t u => .vec 0) (fun t u => [.vec false ⟨.obj, w13_worldF⟩]) (fun t u => [])
  (nofun) (fun t u => by kernel_rfl) (fun t u => by kernel_rfl) (fun t u h => w13_worldF_tr  )
noncomputable def E_w13_live : Env := envOf (P := Try.prog) [w13_world_fact, attach_Wanted_fact, attach_Volume_fact, attach_Attachments_fact] [] [] ckf
def w13_liveF  : Bool :=
  cond (cond (cond (cond (cond (((attach_WantedF w13_worldF (⟨#[118]⟩ : ByteArray)).length : Int) == (1 : Int)) (decide (((attach_WantedF w13_worldF (⟨#[118]⟩ : ByteArray)).getD 0 default) = (⟨#[110]⟩ : ByteArray))) false) (((attach_VolumeF w13_worldF (4 : Int) (⟨#[118]⟩ : ByteArray)).act) == (1 : Int)) false) (decide (((attach_VolumeF w13_worldF (4 : Int) (⟨#[118]⟩ : ByteArray)).obj.name) = (⟨#[118, 47, 110]⟩ : ByteArray))) false) (((attach_VolumeF w13_worldF (4 : Int) (⟨#[118]⟩ : ByteArray)).obj.num) == (5 : Int)) false)
    (((attach_AttachmentsF w13_worldF (⟨#[118]⟩ : ByteArray)).length : Int) == (0 : Int))
    false
def w13_liveR  : RT :=
  (.need [w13_worldF.length ≤ 64]
    (.need [w13_worldF.length ≤ 64, ∀ o ∈ w13_worldF, o.Fine, (⟨#[118]⟩ : ByteArray).size ≤ 140737488351232]
      (.need [((((attach_WantedF w13_worldF (⟨#[118]⟩ : ByteArray)).length : Int) == (1 : Int)) = true) → (0 ≤ (0 : Int) ∧ (0 : Int) < ((attach_WantedF w13_worldF (⟨#[118]⟩ : ByteArray)).length : Int))]
        (.ask (cond (cond (cond (cond (((attach_WantedF w13_worldF (⟨#[118]⟩ : ByteArray)).length : Int) == (1 : Int)) (decide (((attach_WantedF w13_worldF (⟨#[118]⟩ : ByteArray)).getD 0 default) = (⟨#[110]⟩ : ByteArray))) false) (((attach_VolumeF w13_worldF (4 : Int) (⟨#[118]⟩ : ByteArray)).act) == (1 : Int)) false) (decide (((attach_VolumeF w13_worldF (4 : Int) (⟨#[118]⟩ : ByteArray)).obj.name) = (⟨#[118, 47, 110]⟩ : ByteArray))) false) (((attach_VolumeF w13_worldF (4 : Int) (⟨#[118]⟩ : ByteArray)).obj.num) == (5 : Int)) false)
          (.need [w13_worldF.length ≤ 64]
            (.leaf .ret ⟨slots 39 [(0, .bool (((attach_AttachmentsF w13_worldF (⟨#[118]⟩ : ByteArray)).length : Int) == (0 : Int)))], []⟩ []))
          (.leaf .ret ⟨slots 39 [(0, .bool false)], []⟩ [])))))
theorem w13_liveF_tr   : Tr Try.prog 0 (bodyOf Try.f12) (fnBegins Try.f12 [] []) (fnEnds Try.prog Try.f12 (.bool w13_liveF) []) := by
  refine Tr_tree (kok _ _ _ _ _ _) (E := E_w13_live) (L := noLoops) 60 9999 LoopsOk.none (w13_liveR ) (by kernel_rfl) (by kernel_rfl) (by kernel_rfl) ?_
  unfold w13_liveR
  refine ⟨need_cons (by decide) (need_nil), ?_⟩
  refine ⟨need_cons (by decide) (need_cons (by unfold w13_worldF; simp only [List.mem_cons, List.not_mem_nil, or_false, forall_eq_or_imp, forall_eq, XObj.Fine, size_mk]; decide) (need_cons (by (try refine fun (_ : _ = _) => ?_); first | assumption | decide | omega) (need_nil))), ?_⟩
  refine ⟨need_cons (by intro h8; simp only [beq_iff_eq] at h8; omega) (need_nil), ?_⟩
  refine ⟨fun h0 => ?_, fun h0 => ?_⟩
  · refine ⟨need_cons (by decide) (need_nil), ?_⟩
    have hF : w13_liveF = (((attach_AttachmentsF w13_worldF (⟨#[118]⟩ : ByteArray)).length : Int) == (0 : Int)) := by first | exact (cond_t h0 rfl) | simp only [w13_liveF, h0, cond_true, cond_false]
    exact ⟨trivial, .inl (by first | (rw [hF]; kernel_rfl) | kernel_rfl), by first | (rw [hF]; kernel_rfl) | kernel_rfl⟩
  · have hF : w13_liveF = false := by first | exact (cond_f h0 rfl) | simp only [w13_liveF, h0, cond_true, cond_false]
    exact ⟨trivial, .inl (by first | (rw [hF]; kernel_rfl) | kernel_rfl), by first | (rw [hF]; kernel_rfl) | kernel_rfl⟩
noncomputable def w13_live_fact : Fact Try.prog := factOf 12 Try.f12 (by kernel_rfl) rfl (by kernel_rfl) [] [] true (fun t u => .bool w13_liveF) (fun t u => []) (fun t u => [])
  (fun _ _ _ => rfl) (fun t u => by kernel_rfl) (fun t u => by kernel_rfl) (fun t u h => w13_liveF_tr  )
noncomputable def E_w13_few : Env := envOf (P := Try.prog) [] [] [] ckf
def w13_fewF (a0 : List XObj) : List XObj :=
  cond (decide ((a0.length : Int) > (24 : Int)))
    ((a0.take 24).drop 0)
    a0
def w13_fewR (a0 : List XObj) : RT :=
  (.ask (decide ((a0.length : Int) > (24 : Int)))
    (.need [0 ≤ (0 : Int) ∧ (0 : Int) ≤ (24 : Int) ∧ (24 : Int) ≤ (a0.length : Int)]
      (.leaf .ret ⟨slots 9 [(2, .coll ⟨.obj, ((a0.take 24).drop 0)⟩)], []⟩ []))
    (.leaf .ret ⟨slots 9 [(2, .coll ⟨.obj, a0⟩)], []⟩ []))
theorem w13_fewF_tr (a0 : List XObj)  : Tr Try.prog 0 (bodyOf Try.f11) (fnBegins Try.f11 [.coll ⟨.obj, a0⟩] []) (fnEnds Try.prog Try.f11 (.coll ⟨.obj, w13_fewF a0⟩) []) := by
  refine Tr_tree (kok _ _ _ _ _ _) (E := E_w13_few) (L := noLoops) 60 9999 LoopsOk.none (w13_fewR a0) (by kernel_rfl) (by kernel_rfl) (by kernel_rfl) ?_
  unfold w13_fewR
  refine ⟨fun h0 => ?_, fun h0 => ?_⟩
  · refine ⟨need_cons (by first | assumption | omega | (intro; omega) | (simp only [decide_eq_true_eq, decide_eq_false_iff_not, Bool.cond_false_right, Bool.cond_true_right, Bool.cond_true_left, Bool.cond_false_left, Bool.and_eq_true, Bool.or_eq_true, Bool.not_eq_true', bytesLim, maxLen, List.length_cons, List.length_nil, List.length_append, byteSize_lit] at *; omega) | (intro; simp only [decide_eq_true_eq, decide_eq_false_iff_not, Bool.cond_false_right, Bool.cond_true_right, Bool.cond_true_left, Bool.cond_false_left, Bool.and_eq_true, Bool.or_eq_true, Bool.not_eq_true', bytesLim, maxLen, List.length_cons, List.length_nil, List.length_append, byteSize_lit] at *; omega)) (need_nil), ?_⟩
    have hF : w13_fewF a0 = ((a0.take 24).drop 0) := by first | exact (cond_t h0 rfl) | simp only [w13_fewF, h0, cond_true, cond_false]
    exact ⟨trivial, .inl (by first | (rw [hF]; kernel_rfl) | kernel_rfl), by first | (rw [hF]; kernel_rfl) | kernel_rfl⟩
  · have hF : w13_fewF a0 = a0 := by first | exact (cond_f h0 rfl) | simp only [w13_fewF, h0, cond_true, cond_false]
    exact ⟨trivial, .inl (by first | (rw [hF]; kernel_rfl) | kernel_rfl), by first | (rw [hF]; kernel_rfl) | kernel_rfl⟩
noncomputable def w13_few_fact : Fact Try.prog := factOf 11 Try.f11 (by kernel_rfl) rfl (by kernel_rfl) [.c (.coll .obj)] [] true (fun t u => .coll ⟨.obj, w13_fewF t.1⟩) (fun t u => []) (fun t u => [])
  (fun _ _ _ => rfl) (fun t u => by kernel_rfl) (fun t u => by kernel_rfl) (fun t u h => w13_fewF_tr t.1 )
end Go.Proofs.Ytbcnehpndoghcaa
