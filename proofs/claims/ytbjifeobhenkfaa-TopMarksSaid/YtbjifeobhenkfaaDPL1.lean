/- The law TopMarks, plainly: a mark is one byte of many. -/
import Derived.Test.YtbjifeobhenkfaaDLawMarks
set_option linter.unusedVariables false
set_option linter.unusedSimpArgs false
set_option maxRecDepth 100000
namespace Go.Proofs.Ytbjifeobhenkfaa
open Go Go.Eng
theorem byteF_eq (c : Int) (l : List Int) : codec_writer_byteF c l = l ++ [c] := rfl
theorem numLF_app : ∀ (g : Nat) (v : Int) (l : List Int), (0 ≤ v ∧ v < 128 ^ g) → codec_writer_numberLF (g + 1) v l = ((codec_writer_numberLF (g + 1) v []).1, l ++ (codec_writer_numberLF (g + 1) v []).2)
 | g, v, l, hv => by
  unfold codec_writer_numberLF
  by_cases h : v > 127
  · rw [decide_eq_true h, cond_true, cond_true]
    obtain ⟨h1, h2, h3⟩ := num_step h hv
    match g, h1, h3 with
    | g + 1, _, h3 =>
     rw [byteF_eq, byteF_eq, numLF_app g _ (l ++ _) ⟨h2, h3⟩, numLF_app g _ ([] ++ _) ⟨h2, h3⟩]
     simp
  · rw [decide_eq_false h, cond_false, cond_false]
    simp
theorem number_app {v : Int} (hv : U64 v) (l : List Int) : codec_writer_numberF v l = l ++ codec_writer_numberF v [] := by
 unfold codec_writer_numberF
 rw [numLF_app 10 v l (num_start hv)]
 simp [byteF_eq]
theorem text_app : ∀ (l : List ByteArray) (b : List Int), (∀ q ∈ l, q.size ≤ 40) → codec_writer_textF l b = b ++ codec_writer_textF l [] := by
 have key : ∀ (l : List ByteArray) (b : List Int), (∀ q ∈ l, q.size ≤ 40) → codec_writer_textLF l b = b ++ codec_writer_textLF l [] := by
  intro l
  induction l with
  | nil => intro b _; simp [codec_writer_textLF]
  | cons o r ih =>
   intro b h
   have h3 := h o List.mem_cons_self
   have hu : U64 (IntKind.u64.wrap (o.size : Int)) := by rw [u64_len h3]; exact ⟨by omega, by omega⟩
   have hr : ∀ q ∈ r, q.size ≤ 40 := fun q hq => h q (List.mem_cons_of_mem _ hq)
   unfold codec_writer_textLF
   rw [ih _ hr, ih (codec_writer_numberF _ [] ++ _) hr, number_app hu b]
   simp
 exact key
def objA (o : XObj) : List Int := codec_writer_numberF o.born (codec_writer_numberF o.version (codec_writer_textF [o.name] (codec_writer_byteF o.kind [])))
def objC (o : XObj) (b : List Int) : List Int := codec_writer_numberF o.tag (codec_writer_numberF o.num (codec_writer_byteF o.phase (codec_writer_textF [o.zone, o.node, o.claim, o.volume, o.source] (codec_writer_byteF o.mode (codec_writer_numberF (IntKind.u64.wrap o.got) (codec_writer_numberF (IntKind.u64.wrap o.size) (codec_writer_textF [o.cls] b)))))))
theorem objC_app {o : XObj} (h : Small o) (b : List Int) : objC o b = b ++ objC o [] := by
 unfold objC
 rw [text_app _ b (small_cls h), text_app [o.cls] [] (small_cls h)]
 simp only [number_app (small_size h) (b ++ _), number_app (small_size h) ([] ++ _), number_app (small_got h) (b ++ _ ++ _), number_app (small_got h) ([] ++ _ ++ _), byteF_eq, text_app _ (_ ++ [_]) (small_rest h), number_app (small_num h) (_ ++ [_]), number_app (small_tag h) (_ ++ _)]
 simp
theorem obj_split {o : XObj} (h : Small o) : codec_writer_objectF o [] = objA o ++ ([codec_flagsF [o.deleting, o.hold, o.keep, o.wait]] ++ objC o []) := by
 show objC o (codec_writer_byteF _ (objA o)) = _
 rw [objC_app h, byteF_eq]
 simp
theorem bytesStr_list : ∀ (ns : List Int) (r : ByteArray), (ns.foldl (fun r n => r.push (UInt8.ofNat n.toNat)) r).data.toList = r.data.toList ++ ns.map fun n => UInt8.ofNat n.toNat
 | [], r => by simp
 | n :: ns, r => by
  rw [List.foldl_cons, bytesStr_list ns]
  simp [ByteArray.push]
theorem flags_ne (d h k w : Bool) : UInt8.ofNat (codec_flagsF [d, h, k, w]).toNat ≠ UInt8.ofNat (codec_flagsF [!d, h, k, w]).toNat := by
 cases d <;> cases h <;> cases k <;> cases w <;> decide
theorem right_del (o : XObj) (x : Bool) : object_RightF { o with deleting := x } = object_RightF o := by kernel_rfl
theorem user_no {o : XObj} (h : object_UserF o = true) : object_RightF o = true ∧ o.deleting = false := by
 unfold object_UserF at h
 cases hr : object_RightF o with
 | false => rw [hr] at h; cases h
 | true =>
  cases hd : o.deleting with
  | false => exact ⟨rfl, rfl⟩
  | true => rw [hr, hd] at h; cases h
theorem marks_true {o : XObj} (hr : Rng o) : t_TopMarksF o = true := by
 have hdel := right_del o (!o.deleting)
 unfold t_TopMarksF codec_ObjectF
 cases hR : object_RightF o with
 | false =>
  rw [hdel, hR]
  cases hU : object_UserF o with
  | false => rfl
  | true => rw [(user_no hU).1] at hR; cases hR
 | true =>
  rw [hdel, hR]
  have hs := right_small hR hr
  have hs2 : Small { o with deleting := !o.deleting } := hs
  have hu : cond (!(object_UserF o)) true (!(object_UserF ({ o with deleting := !o.deleting } : XObj))) = true := by
   cases hU : object_UserF o with
   | false => rfl
   | true =>
    cases hU2 : object_UserF ({ o with deleting := !o.deleting } : XObj) with
    | false => rfl
    | true =>
     have h1 := (user_no hU).2
     have h2 : (!o.deleting) = false := (user_no hU2).2
     rw [h1] at h2
     cases h2
  have hl : (codec_writer_objectF o []).length = (codec_writer_objectF { o with deleting := !o.deleting } []).length := by
   rw [obj_split hs, obj_split hs2]
   show (objA o ++ ([_] ++ objC o [])).length = (objA o ++ ([_] ++ objC o [])).length
   simp
  have hne : bytesStr (codec_writer_objectF o []) ≠ bytesStr (codec_writer_objectF { o with deleting := !o.deleting } []) := by
   intro he
   have h1 := congrArg (fun s : ByteArray => s.data.toList) he
   simp only [bytesStr, bytesStr_list] at h1
   rw [obj_split hs, obj_split hs2] at h1
   replace h1 : (ByteArray.empty.data.toList ++ (objA o ++ ([codec_flagsF [o.deleting, o.hold, o.keep, o.wait]] ++ objC o [])).map fun n => UInt8.ofNat n.toNat) = (ByteArray.empty.data.toList ++ (objA o ++ ([codec_flagsF [!o.deleting, o.hold, o.keep, o.wait]] ++ objC o [])).map fun n => UInt8.ofNat n.toNat) := h1
   simp only [List.map_append, List.append_cancel_left_eq, List.map_cons, List.map_nil, List.cons_append, List.nil_append, List.cons.injEq] at h1
   exact flags_ne _ _ _ _ h1.1
  simp only [Bool.not_true, cond_false]
  rw [hu, decide_eq_false hne, hl]
  simp
end Go.Proofs.Ytbjifeobhenkfaa
