/- The driver: a new one. -/
import Derived.Test.YtkledlcmhbjadaaGreatDoorDAct
set_option linter.unusedVariables false
set_option linter.unusedSimpArgs false
set_option maxRecDepth 100000
namespace Go.Proofs.YtkledlcmhbjadaaGreatDoor
open Go Go.Eng
noncomputable def E_driver_New : Env := envOf (P := Tryz.prog) [object_Name_fact] [] [] ckf
def driver_NewLF  : List XZone → List (ByteArray × Int) → Bool × (List (ByteArray × Int))
 | [], v3 => (false, v3)
 | o :: r, v3 => cond (cond (cond (cond ((mget (k := .str) (v := (.int .i64)) v3 (o.name)).isSome) true (!(object_NameF (o.name)))) true (decide ((o.room) < (0 : Int)))) true (decide ((o.room) > (1125899906842624 : Int))))
  (true, default)
  (driver_NewLF r (mset (k := .str) (v := (.int .i64)) v3 (o.name) (o.room)))
def driver_NewLS (a0 : List XZone) (i : Nat) (v3 : List (ByteArray × Int)) : St :=
 ⟨slots 65 [(3, .ptr 0 0), (22, .coll ⟨.zone, a0⟩), (23, .int .i64 (a0.length : Int)), (24, .int .i64 (i : Int))], (.cells 89 [.map 1, .map 2, .map 3, .map 4] :: oM v3 ([] : List (ByteArray × XVn)) ([]) ([]) [])⟩
def driver_NewLR (a0 : List XZone) (i : Nat) (v3 : List (ByteArray × Int)) : RT :=
 (.ask (decide ((i : Int) < (a0.length : Int)))
   (.need [0 ≤ (i : Int) ∧ (i : Int) < (a0.length : Int)]
     (.need [(((mget (k := .str) (v := (.int .i64)) v3 ((a0.getD i default).name)).isSome) = false) → (((a0.getD i default).name).size < 4611686018427387904)]
       (.ask (cond (cond (cond ((mget (k := .str) (v := (.int .i64)) v3 ((a0.getD i default).name)).isSome) true (!(object_NameF ((a0.getD i default).name)))) true (decide (((a0.getD i default).room) < (0 : Int)))) true (decide (((a0.getD i default).room) > (1125899906842624 : Int))))
         (.leaf .ret ⟨slots 65 [(2, .nilp)], []⟩ [])
         (.leaf .normal ⟨slots 65 [(3, .ptr 0 0), (22, .coll ⟨.zone, a0⟩), (23, .int .i64 (a0.length : Int)), (24, .int .i64 (IntKind.i64.wrap ((i : Int) + (1 : Int))))], (.cells 89 [.map 1, .map 2, .map 3, .map 4] :: oM (mset (k := .str) (v := (.int .i64)) v3 ((a0.getD i default).name) ((a0.getD i default).room)) ([] : List (ByteArray × XVn)) ([]) ([]) [])⟩ []))))
   (.leaf (.exit 0) ⟨slots 65 [(3, .ptr 0 0)], (.cells 89 [.map 1, .map 2, .map 3, .map 4] :: oM v3 ([] : List (ByteArray × XVn)) ([]) ([]) [])⟩ []))
def driver_NewLT (a0 : List XZone) (i : Nat) (v3 : List (ByteArray × Int)) : Tree :=
 .ask ((driver_NewLF (a0.drop i) v3).1) (.leaf .ret ⟨slots 65 [(2, .nilp)], []⟩) (.leaf (.exit 0) ⟨slots 65 [(3, .ptr 0 0)], (.cells 89 [.map 1, .map 2, .map 3, .map 4] :: oM ((driver_NewLF (a0.drop i) v3).2) ([] : List (ByteArray × XVn)) ([]) ([]) [])⟩)
theorem driver_NewL_loop (a0 : List XZone) (hp0 : a0.length < 4611686018427387904) (hp1 : ∀ z ∈ a0, z.name.size < 4611686018427387904) (hlen : a0.length < 4611686018427387904) (z : { z : Nat × (List (ByteArray × Int)) // z.1 ≤ a0.length }) (Q : Exit → St → Prop) (h : (driver_NewLT a0 z.1.1 z.1.2).All Q) : Tr Tryz.prog 0 (.loop (loopAt Tryz.f12 0)) (driver_NewLS a0 z.1.1 z.1.2) Q := by
 refine Tr_loopT (kok _ _ _ _ _ _) (E := E_driver_New) (ι := { z : Nat × (List (ByteArray × Int)) // z.1 ≤ a0.length }) 60 0 (fun _ => noLoops) (fun z => driver_NewLS a0 z.1.1 z.1.2) (fun z => driver_NewLT a0 z.1.1 z.1.2) (fun z => driver_NewLR a0 z.1.1 z.1.2) (fun z => a0.length - z.1.1) (fun _ => LoopsOk.none) (fun z => by obtain ⟨⟨i, v3⟩, hi⟩ := z; kernel_rfl) (fun z => by obtain ⟨⟨i, v3⟩, hi⟩ := z; kernel_rfl) (fun z => by obtain ⟨⟨i, v3⟩, hi⟩ := z; kernel_rfl) ?_ z Q h
 rintro ⟨⟨i, v3⟩, hi⟩ Q hT
 replace hT : (driver_NewLT a0 i v3).All Q := hT
 replace hi : i ≤ a0.length := hi
 show (driver_NewLR a0 i v3).All _
 unfold driver_NewLR
 refine ⟨fun h0 => ?_, fun h0 => ?_⟩
 · have hlt : i < a0.length := by simpa using h0
   have hd := drop_getD hlt
   have hw := wrap_succ (i := i) (by omega)
   refine ⟨need_cons (by first | assumption | omega | ((try intro _); (try simp only [decide_eq_true_eq, decide_eq_false_iff_not, Bool.cond_false_right, Bool.cond_true_right, Bool.cond_true_left, Bool.cond_false_left, Bool.and_eq_true, Bool.or_eq_true, Bool.not_eq_true', bytesLim, maxLen, List.length_cons, List.length_nil, List.length_append, byteSize_lit] at *); omega)) (need_nil), ?_⟩
   refine ⟨need_cons (by (try refine fun (_ : _ = _) => ?_); (try refine fun (_ : _ ∧ _) => ?_); exact (hp1 _ (gD_mem hlt))) (need_nil), ?_⟩
   refine ⟨fun h1 => ?_, fun h1 => ?_⟩
   · have hF : driver_NewLF (a0.drop i) v3 = (true, default) := by rw [hd]; first | exact (cond_t h1 rfl) | simp only [driver_NewLF, h0, h1, cond_true, cond_false]
     unfold driver_NewLT at hT
     rw [hF] at hT
     exact hT.1 rfl
   · have hF : driver_NewLF (a0.drop i) v3 = driver_NewLF (a0.drop (i + 1)) (mset (k := .str) (v := (.int .i64)) v3 ((a0.getD i default).name) ((a0.getD i default).room)) := by rw [hd]; first | exact (cond_f h1 rfl) | simp only [driver_NewLF, h0, h1, cond_true, cond_false]
     refine ⟨⟨((i + 1), (mset (k := .str) (v := (.int .i64)) v3 ((a0.getD i default).name) ((a0.getD i default).room))), by show (i + 1) ≤ a0.length; omega⟩, by show a0.length - (i + 1) < a0.length - i; omega, ?_, ?_⟩
     · show _ = driver_NewLS a0 (i + 1) (mset (k := .str) (v := (.int .i64)) v3 ((a0.getD i default).name) ((a0.getD i default).room))
       unfold driver_NewLS
       simp only [hw]
     · show (driver_NewLT a0 (i + 1) (mset (k := .str) (v := (.int .i64)) v3 ((a0.getD i default).name) ((a0.getD i default).room))).All Q
       unfold driver_NewLT at hT ⊢
       rw [hF] at hT
       exact hT
 · have hge : ¬ i < a0.length := by simpa using h0
   have hd : a0.drop i = [] := List.drop_eq_nil_of_le (by omega)
   have hF : driver_NewLF (a0.drop i) v3 = (false, v3) := by rw [hd]; first | exact rfl | simp only [driver_NewLF, h0, cond_true, cond_false]
   unfold driver_NewLT at hT
   rw [hF] at hT
   exact hT.2 rfl
def driver_NewF (a0 : List XZone) : Bool × (List (ByteArray × Int)) × (List (ByteArray × XVn)) × (List (ByteArray × XSn)) × (List (XTgt × XDone)) :=
 cond (cond ((a0.length : Int) == (0 : Int)) true (decide ((a0.length : Int) > (16 : Int))))
  (false, default, default, default, default)
  (cond ((driver_NewLF a0 []).1)
    (false, default, default, default, default)
    (true, (driver_NewLF a0 []).2, ([] : List (ByteArray × XVn)), [], []))
def driver_NewR (a0 : List XZone) : RT :=
 (.ask (cond ((a0.length : Int) == (0 : Int)) true (decide ((a0.length : Int) > (16 : Int))))
   (.leaf .ret ⟨slots 65 [(2, .nilp)], []⟩ [])
   (.ask ((driver_NewLF a0 []).1)
     (.leaf .ret ⟨slots 65 [(2, .nilp)], []⟩ [])
     (.leaf .ret ⟨slots 65 [(2, .ptr 0 0)], (.cells 89 [.map 1, .map 2, .map 3, .map 4] :: oM ((driver_NewLF a0 []).2) ([] : List (ByteArray × XVn)) ([]) ([]) [])⟩ [])))
theorem driver_NewF_trA (a0 : List XZone) (hp0 : a0.length < 4611686018427387904) (hp1 : ∀ z ∈ a0, z.name.size < 4611686018427387904) (hfl : (driver_NewF a0).1 = true) : Tr Tryz.prog 0 (bodyOf Tryz.f12) (fnBegins Tryz.f12 [.coll ⟨.zone, a0⟩] []) (fnEnds Tryz.prog Tryz.f12 (.ptr 0 0) (.cells 89 [.map 1, .map 2, .map 3, .map 4] :: oM ((driver_NewF a0).2.1) ((driver_NewF a0).2.2.1) ((driver_NewF a0).2.2.2.1) ((driver_NewF a0).2.2.2.2) [])) := by
 refine Tr_tree (kok _ _ _ _ _ _) (E := E_driver_New) (L := (loopsOf [(0, driver_NewLS a0 0 [], [4, 0, 1, 2, 3], driver_NewLT a0 0 [])])) 60 9999 (LoopsOk.one (g := loopAt Tryz.f12 0) (b := 0) (by kernel_rfl) (by kernel_rfl) (by kernel_rfl) (by kernel_rfl) (fun Q h => driver_NewL_loop a0 hp0 hp1 (by first | assumption | omega | (simp only [List.length_cons, List.length_nil, List.length_append]; omega)) ⟨(0, []), by first | exact Nat.zero_le _ | (show 0 ≤ a0.length; omega) | (show 0 ≤ a0.length; exact ⟨Nat.zero_le _, by assumption⟩) | (show 0 ≤ a0.length; simp)⟩ Q h)) (driver_NewR a0) (by kernel_rfl) (by kernel_rfl) (by kernel_rfl) ?_
 unfold driver_NewR
 refine ⟨fun h0 => ?_, fun h0 => ?_⟩
 · have hF : driver_NewF a0 = (false, default, default, default, default) := by first | exact (cond_t h0 rfl) | simp only [driver_NewF, h0, cond_true, cond_false]
   exact absurd hfl (by rw [hF]; simp)
 · refine ⟨fun h1 => ?_, fun h1 => ?_⟩
   · have hF : driver_NewF a0 = (false, default, default, default, default) := by first | exact (cond_f h0 (cond_t h1 rfl)) | simp only [driver_NewF, h0, h1, cond_true, cond_false]
     exact absurd hfl (by rw [hF]; simp)
   · have hF : driver_NewF a0 = (true, (driver_NewLF a0 []).2, ([] : List (ByteArray × XVn)), [], []) := by first | exact (cond_f h0 (cond_f h1 rfl)) | simp only [driver_NewF, h0, h1, cond_true, cond_false]
     exact ⟨trivial, .inl (by (try rw [hF]); kernel_rfl), by (try rw [hF]); kernel_rfl⟩
noncomputable def driver_NewA_fact : Fact Tryz.prog := factOf 12 Tryz.f12 (by kernel_rfl) rfl (by kernel_rfl) [.c (.coll .zone)] [] false (fun t u => .ptr 0 0) (fun t u => (.cells 89 [.map 1, .map 2, .map 3, .map 4] :: oM ((driver_NewF t.1).2.1) ((driver_NewF t.1).2.2.1) ((driver_NewF t.1).2.2.2.1) ((driver_NewF t.1).2.2.2.2) [])) (fun t u => [t.1.length < 4611686018427387904, ∀ z ∈ t.1, z.name.size < 4611686018427387904, (driver_NewF t.1).1 = true])
 (nofun) (fun t u => by kernel_rfl) (fun t u => by kernel_rfl) (fun t u h => driver_NewF_trA t.1 (h _ List.mem_cons_self) (h _ (List.mem_cons_of_mem _ List.mem_cons_self)) (h _ (List.mem_cons_of_mem _ (List.mem_cons_of_mem _ List.mem_cons_self))))
end Go.Proofs.YtkledlcmhbjadaaGreatDoor
