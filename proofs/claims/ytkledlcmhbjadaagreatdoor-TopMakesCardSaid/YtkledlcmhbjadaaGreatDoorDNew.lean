/- The driver: a new one. -/
import Derived.Test.YtkledlcmhbjadaaGreatDoorDAct
set_option linter.unusedVariables false
set_option linter.unusedSimpArgs false
set_option maxRecDepth 100000
namespace Go.Proofs.YtkledlcmhbjadaaGreatDoor
open Go Go.Eng
noncomputable def Z267 : Env := Z57 (P := Tryz.prog) [Z16b] [] [] ckf
def Z5e  : List XZone → List (ByteArray × Int) → Bool × (List (ByteArray × Int))
 | [], v3 => (false, v3)
 | o :: r, v3 => cond (cond (cond (cond ((mget (k := .str) (v := (.int .i64)) v3 (o.name)).isSome) true (!(Z31 (o.name)))) true (decide ((o.room) < (0 : Int)))) true (decide ((o.room) > (1125899906842624 : Int))))
  (true, default)
  (Z5e r (mset (k := .str) (v := (.int .i64)) v3 (o.name) (o.room)))
def Zda (a0 : List XZone) (i : Nat) (v3 : List (ByteArray × Int)) : St :=
 ⟨Z9 65 [(3, .ptr 0 0), (22, .coll ⟨.zone, a0⟩), (23, .int .i64 (a0.length : Int)), (24, .int .i64 (i : Int))], (.cells 89 [.map 1, .map 2, .map 3, .map 4] :: oM v3 ([] : List (ByteArray × XVn)) ([]) ([]) [])⟩
def Z196 (a0 : List XZone) (i : Nat) (v3 : List (ByteArray × Int)) : RT :=
 (.ask (decide ((i : Int) < (a0.length : Int)))
   (.need [0 ≤ (i : Int) ∧ (i : Int) < (a0.length : Int)]
     (.need [(((mget (k := .str) (v := (.int .i64)) v3 ((a0.getD i default).name)).isSome) = false) → (((a0.getD i default).name).size < 4611686018427387904)]
       (.ask (cond (cond (cond ((mget (k := .str) (v := (.int .i64)) v3 ((a0.getD i default).name)).isSome) true (!(Z31 ((a0.getD i default).name)))) true (decide (((a0.getD i default).room) < (0 : Int)))) true (decide (((a0.getD i default).room) > (1125899906842624 : Int))))
         (.leaf .ret ⟨Z9 65 [(2, .nilp)], []⟩ [])
         (.leaf .normal ⟨Z9 65 [(3, .ptr 0 0), (22, .coll ⟨.zone, a0⟩), (23, .int .i64 (a0.length : Int)), (24, .int .i64 (IntKind.i64.wrap ((i : Int) + (1 : Int))))], (.cells 89 [.map 1, .map 2, .map 3, .map 4] :: oM (mset (k := .str) (v := (.int .i64)) v3 ((a0.getD i default).name) ((a0.getD i default).room)) ([] : List (ByteArray × XVn)) ([]) ([]) [])⟩ []))))
   (.leaf (.exit 0) ⟨Z9 65 [(3, .ptr 0 0)], (.cells 89 [.map 1, .map 2, .map 3, .map 4] :: oM v3 ([] : List (ByteArray × XVn)) ([]) ([]) [])⟩ []))
def Z9c (a0 : List XZone) (i : Nat) (v3 : List (ByteArray × Int)) : Tree :=
 .ask ((Z5e (a0.drop i) v3).1) (.leaf .ret ⟨Z9 65 [(2, .nilp)], []⟩) (.leaf (.exit 0) ⟨Z9 65 [(3, .ptr 0 0)], (.cells 89 [.map 1, .map 2, .map 3, .map 4] :: oM ((Z5e (a0.drop i) v3).2) ([] : List (ByteArray × XVn)) ([]) ([]) [])⟩)
theorem Z26d (a0 : List XZone) (hp0 : a0.length < 4611686018427387904) (hp1 : ∀ z ∈ a0, z.name.size < 4611686018427387904) (hlen : a0.length < 4611686018427387904) (z : { z : Nat × (List (ByteArray × Int)) // z.1 ≤ a0.length }) (Q : Exit → St → Prop) (h : (Z9c a0 z.1.1 z.1.2).All Q) : Tr Tryz.prog 0 (.loop (Z49 Tryz.f12 0)) (Zda a0 z.1.1 z.1.2) Q := by
 refine Z98 (kok _ _ _ _ _ _) (E := Z267) (ι := { z : Nat × (List (ByteArray × Int)) // z.1 ≤ a0.length }) 60 0 (fun _ => Z2a) (fun z => Zda a0 z.1.1 z.1.2) (fun z => Z9c a0 z.1.1 z.1.2) (fun z => Z196 a0 z.1.1 z.1.2) (fun z => a0.length - z.1.1) (fun _ => Z14.none) (fun z => by obtain ⟨⟨i, v3⟩, hi⟩ := z; kernel_rfl) (fun z => by obtain ⟨⟨i, v3⟩, hi⟩ := z; kernel_rfl) (fun z => by obtain ⟨⟨i, v3⟩, hi⟩ := z; kernel_rfl) ?_ z Q h
 rintro ⟨⟨i, v3⟩, hi⟩ Q hT
 replace hT : (Z9c a0 i v3).All Q := hT
 replace hi : i ≤ a0.length := hi
 show (Z196 a0 i v3).All _
 unfold Z196
 refine ⟨fun h0 => ?_, fun h0 => ?_⟩
 · have hlt : i < a0.length := by simpa using h0
   have hd := Z8e hlt
   have hw := Z85 (i := i) (by omega)
   refine ⟨Z6 (by first | assumption | omega | ((try intro _); (try simp only [decide_eq_true_eq, decide_eq_false_iff_not, Bool.cond_false_right, Bool.cond_true_right, Bool.cond_true_left, Bool.cond_false_left, Bool.and_eq_true, Bool.or_eq_true, Bool.not_eq_true', Z35, maxLen, List.length_cons, List.length_nil, List.length_append, Z28] at *); omega)) (Z10), ?_⟩
   refine ⟨Z6 (by (try refine fun (_ : _ = _) => ?_); exact (hp1 _ (Z33 hlt))) (Z10), ?_⟩
   refine ⟨fun h1 => ?_, fun h1 => ?_⟩
   · have hF : Z5e (a0.drop i) v3 = (true, default) := by rw [hd]; first | exact (Zb h1 rfl) | simp only [Z5e, h0, h1, cond_true, cond_false]
     unfold Z9c at hT
     rw [hF] at hT
     exact hT.1 rfl
   · have hF : Z5e (a0.drop i) v3 = Z5e (a0.drop (i + 1)) (mset (k := .str) (v := (.int .i64)) v3 ((a0.getD i default).name) ((a0.getD i default).room)) := by rw [hd]; first | exact (Z5 h1 rfl) | simp only [Z5e, h0, h1, cond_true, cond_false]
     refine ⟨⟨((i + 1), (mset (k := .str) (v := (.int .i64)) v3 ((a0.getD i default).name) ((a0.getD i default).room))), by show (i + 1) ≤ a0.length; omega⟩, by show a0.length - (i + 1) < a0.length - i; omega, ?_, ?_⟩
     · show _ = Zda a0 (i + 1) (mset (k := .str) (v := (.int .i64)) v3 ((a0.getD i default).name) ((a0.getD i default).room))
       unfold Zda
       simp only [hw]
     · show (Z9c a0 (i + 1) (mset (k := .str) (v := (.int .i64)) v3 ((a0.getD i default).name) ((a0.getD i default).room))).All Q
       unfold Z9c at hT ⊢
       rw [hF] at hT
       exact hT
 · have hge : ¬ i < a0.length := by simpa using h0
   have hd : a0.drop i = [] := List.drop_eq_nil_of_le (by omega)
   have hF : Z5e (a0.drop i) v3 = (false, v3) := by rw [hd]; first | exact rfl | simp only [Z5e, h0, cond_true, cond_false]
   unfold Z9c at hT
   rw [hF] at hT
   exact hT.2 rfl
def Z29 (a0 : List XZone) : Bool × (List (ByteArray × Int)) × (List (ByteArray × XVn)) × (List (ByteArray × XSn)) × (List (XTgt × XDone)) :=
 cond (cond ((a0.length : Int) == (0 : Int)) true (decide ((a0.length : Int) > (16 : Int))))
  (false, default, default, default, default)
  (cond ((Z5e a0 []).1)
    (false, default, default, default, default)
    (true, (Z5e a0 []).2, ([] : List (ByteArray × XVn)), [], []))
def driver_NewR (a0 : List XZone) : RT :=
 (.ask (cond ((a0.length : Int) == (0 : Int)) true (decide ((a0.length : Int) > (16 : Int))))
   (.leaf .ret ⟨Z9 65 [(2, .nilp)], []⟩ [])
   (.ask ((Z5e a0 []).1)
     (.leaf .ret ⟨Z9 65 [(2, .nilp)], []⟩ [])
     (.leaf .ret ⟨Z9 65 [(2, .ptr 0 0)], (.cells 89 [.map 1, .map 2, .map 3, .map 4] :: oM ((Z5e a0 []).2) ([] : List (ByteArray × XVn)) ([]) ([]) [])⟩ [])))
theorem driver_NewF_trA (a0 : List XZone) (hp0 : a0.length < 4611686018427387904) (hp1 : ∀ z ∈ a0, z.name.size < 4611686018427387904) (hfl : (Z29 a0).1 = true) : Tr Tryz.prog 0 (Z3a Tryz.f12) (Z1f Tryz.f12 [.coll ⟨.zone, a0⟩] []) (Z4a Tryz.prog Tryz.f12 (.ptr 0 0) (.cells 89 [.map 1, .map 2, .map 3, .map 4] :: oM ((Z29 a0).2.1) ((Z29 a0).2.2.1) ((Z29 a0).2.2.2.1) ((Z29 a0).2.2.2.2) [])) := by
 refine Z20 (kok _ _ _ _ _ _) (E := Z267) (L := (Z61 [(0, Zda a0 0 [], [4, 0, 1, 2, 3], Z9c a0 0 [])])) 60 9999 (Z14.one (g := Z49 Tryz.f12 0) (b := 0) (by kernel_rfl) (by kernel_rfl) (by kernel_rfl) (by kernel_rfl) (fun Q h => Z26d a0 hp0 hp1 (by first | assumption | omega | (simp only [List.length_cons, List.length_nil, List.length_append]; omega)) ⟨(0, []), by first | exact Nat.zero_le _ | (show 0 ≤ a0.length; omega) | (show 0 ≤ a0.length; exact ⟨Nat.zero_le _, by assumption⟩) | (show 0 ≤ a0.length; simp)⟩ Q h)) (driver_NewR a0) (by kernel_rfl) (by kernel_rfl) (by kernel_rfl) ?_
 unfold driver_NewR
 refine ⟨fun h0 => ?_, fun h0 => ?_⟩
 · have hF : Z29 a0 = (false, default, default, default, default) := by first | exact (Zb h0 rfl) | simp only [Z29, h0, cond_true, cond_false]
   exact absurd hfl (by rw [hF]; simp)
 · refine ⟨fun h1 => ?_, fun h1 => ?_⟩
   · have hF : Z29 a0 = (false, default, default, default, default) := by first | exact (Z5 h0 (Zb h1 rfl)) | simp only [Z29, h0, h1, cond_true, cond_false]
     exact absurd hfl (by rw [hF]; simp)
   · have hF : Z29 a0 = (true, (Z5e a0 []).2, ([] : List (ByteArray × XVn)), [], []) := by first | exact (Z5 h0 (Z5 h1 rfl)) | simp only [Z29, h0, h1, cond_true, cond_false]
     exact ⟨trivial, .inl (by (try rw [hF]); kernel_rfl), by (try rw [hF]); kernel_rfl⟩
noncomputable def Z26e : Fact Tryz.prog := Z50 12 Tryz.f12 (by kernel_rfl) rfl (by kernel_rfl) [.c (.coll .zone)] [] false (fun t u => .ptr 0 0) (fun t u => (.cells 89 [.map 1, .map 2, .map 3, .map 4] :: oM ((Z29 t.1).2.1) ((Z29 t.1).2.2.1) ((Z29 t.1).2.2.2.1) ((Z29 t.1).2.2.2.2) [])) (fun t u => [t.1.length < 4611686018427387904, ∀ z ∈ t.1, z.name.size < 4611686018427387904, (Z29 t.1).1 = true])
 (nofun) (fun t u => by kernel_rfl) (fun t u => by kernel_rfl) (fun t u h => driver_NewF_trA t.1 (h _ List.mem_cons_self) (h _ (List.mem_cons_of_mem _ List.mem_cons_self)) (h _ (List.mem_cons_of_mem _ (List.mem_cons_of_mem _ List.mem_cons_self))))
end Go.Proofs.YtkledlcmhbjadaaGreatDoor
