/- The driver: a new one. -/
import Derived.Test.YtkledlcmhbjadaaGreatDAct
set_option linter.unusedVariables false
set_option linter.unusedSimpArgs false
set_option maxRecDepth 100000
namespace Go.Proofs.YtkledlcmhbjadaaGreat
open Go Go.Eng
noncomputable def Z242 : Env := Z65 (P := Tryz.prog) [Z148] [] [] ckf
def Z42  : LZ → LA → Bool × LA
 | [], v3 => (false, v3)
 | o :: r, v3 => cond (cond (cond (cond ((mget (k := .str) (v := (.int .i64)) v3 (o.name)).isSome) true (!(Z1f (o.name)))) true (decide ((o.room) < (0 : Int)))) true (decide ((o.room) > (1125899906842624 : Int))))
  (true, default)
  (Z42 r (mset (k := .str) (v := (.int .i64)) v3 (o.name) (o.room)))
def Zd9 (a0 : LZ) (i : Nat) (v3 : LA) : St :=
 ⟨Za 65 [(3, .ptr 0 0), (22, .coll ⟨.zone, a0⟩), (23, .int .i64 (a0.length : Int)), (24, .int .i64 (i : Int))], (.cells 87 [.map 1, .map 2, .map 3, .map 4] :: oM v3 ([] : LB) ([]) ([]) [])⟩
def Z176 (a0 : LZ) (i : Nat) (v3 : LA) : RT :=
 (.ask (decide ((i : Int) < (a0.length : Int)))
   (.need [0 ≤ (i : Int) ∧ (i : Int) < (a0.length : Int)]
     (.need [(((mget (k := .str) (v := (.int .i64)) v3 ((a0.getD i default).name)).isSome) = false) → (((a0.getD i default).name).size < 4611686018427387904)]
       (.ask (cond (cond (cond ((mget (k := .str) (v := (.int .i64)) v3 ((a0.getD i default).name)).isSome) true (!(Z1f ((a0.getD i default).name)))) true (decide (((a0.getD i default).room) < (0 : Int)))) true (decide (((a0.getD i default).room) > (1125899906842624 : Int))))
         (.leaf .ret ⟨Za 65 [(2, .nilp)], []⟩ [])
         (.leaf .normal ⟨Za 65 [(3, .ptr 0 0), (22, .coll ⟨.zone, a0⟩), (23, .int .i64 (a0.length : Int)), (24, .int .i64 (IntKind.i64.wrap ((i : Int) + (1 : Int))))], (.cells 87 [.map 1, .map 2, .map 3, .map 4] :: oM (mset (k := .str) (v := (.int .i64)) v3 ((a0.getD i default).name) ((a0.getD i default).room)) ([] : LB) ([]) ([]) [])⟩ []))))
   (.leaf (.exit 0) ⟨Za 65 [(3, .ptr 0 0)], (.cells 87 [.map 1, .map 2, .map 3, .map 4] :: oM v3 ([] : LB) ([]) ([]) [])⟩ []))
def Z96 (a0 : LZ) (i : Nat) (v3 : LA) : Tree :=
 .ask ((Z42 (a0.drop i) v3).1) (.leaf .ret ⟨Za 65 [(2, .nilp)], []⟩) (.leaf (.exit 0) ⟨Za 65 [(3, .ptr 0 0)], (.cells 87 [.map 1, .map 2, .map 3, .map 4] :: oM ((Z42 (a0.drop i) v3).2) ([] : LB) ([]) ([]) [])⟩)
theorem Z24d (a0 : LZ) (hp0 : a0.length < 4611686018427387904) (hp1 : ∀ z ∈ a0, z.name.size < 4611686018427387904) (hlen : a0.length < 4611686018427387904) (z : { z : Nat × LA // z.1 ≤ a0.length }) (Q : Exit → St → Prop) (h : (Z96 a0 z.1.1 z.1.2).All Q) : Tr Tryz.prog 0 (.loop (Z47 Tryz.f38 0)) (Zd9 a0 z.1.1 z.1.2) Q := by
 refine Z60 (kok _ _ _ _ _ _) (E := Z242) (ι := { z : Nat × LA // z.1 ≤ a0.length }) 60 0 (fun _ => Z32) (fun z => Zd9 a0 z.1.1 z.1.2) (fun z => Z96 a0 z.1.1 z.1.2) (fun z => Z176 a0 z.1.1 z.1.2) (fun z => a0.length - z.1.1) (fun _ => Z14.none) (fun z => by obtain ⟨⟨i, v3⟩, hi⟩ := z; kernel_rfl) (fun z => by obtain ⟨⟨i, v3⟩, hi⟩ := z; kernel_rfl) (fun z => by obtain ⟨⟨i, v3⟩, hi⟩ := z; kernel_rfl) ?_ z Q h
 rintro ⟨⟨i, v3⟩, hi⟩ Q hT
 replace hT : (Z96 a0 i v3).All Q := hT
 replace hi : i ≤ a0.length := hi
 show (Z176 a0 i v3).All _
 unfold Z176
 refine ⟨fun h0 => ?_, fun h0 => ?_⟩
 · have hlt : i < a0.length := by simpa using h0
   have hd := Z64 hlt
   have hw := Z4e (i := i) (by omega)
   refine ⟨Z2 (by first | assumption | omega | ((try intro _); (try simp only [decide_eq_true_eq, decide_eq_false_iff_not, Bool.cond_false_right, Bool.cond_true_right, Bool.cond_true_left, Bool.cond_false_left, Bool.and_eq_true, Bool.or_eq_true, Bool.not_eq_true', Z18, maxLen, List.length_cons, List.length_nil, List.length_append, Z44] at *); omega)) (Z9), ?_⟩
   refine ⟨Z2 (by (try refine fun (_ : _ = _) => ?_); exact (hp1 _ (Z172 hlt))) (Z9), ?_⟩
   refine ⟨fun h1 => ?_, fun h1 => ?_⟩
   · have hF : Z42 (a0.drop i) v3 = (true, default) := by rw [hd]; first | exact (Z12 h1 rfl) | simp only [Z42, h0, h1, cond_true, cond_false]
     unfold Z96 at hT
     rw [hF] at hT
     exact hT.1 rfl
   · have hF : Z42 (a0.drop i) v3 = Z42 (a0.drop (i + 1)) (mset (k := .str) (v := (.int .i64)) v3 ((a0.getD i default).name) ((a0.getD i default).room)) := by rw [hd]; first | exact (Z3 h1 rfl) | simp only [Z42, h0, h1, cond_true, cond_false]
     refine ⟨⟨((i + 1), (mset (k := .str) (v := (.int .i64)) v3 ((a0.getD i default).name) ((a0.getD i default).room))), by show (i + 1) ≤ a0.length; omega⟩, by show a0.length - (i + 1) < a0.length - i; omega, ?_, ?_⟩
     · show _ = Zd9 a0 (i + 1) (mset (k := .str) (v := (.int .i64)) v3 ((a0.getD i default).name) ((a0.getD i default).room))
       unfold Zd9
       simp only [hw]
     · show (Z96 a0 (i + 1) (mset (k := .str) (v := (.int .i64)) v3 ((a0.getD i default).name) ((a0.getD i default).room))).All Q
       unfold Z96 at hT ⊢
       rw [hF] at hT
       exact hT
 · have hge : ¬ i < a0.length := by simpa using h0
   have hd : a0.drop i = [] := List.drop_eq_nil_of_le (by omega)
   have hF : Z42 (a0.drop i) v3 = (false, v3) := by rw [hd]; first | exact rfl | simp only [Z42, h0, cond_true, cond_false]
   unfold Z96 at hT
   rw [hF] at hT
   exact hT.2 rfl
def Z25 (a0 : LZ) : Bool × LA × LB × LC × LD :=
 cond (cond ((a0.length : Int) == (0 : Int)) true (decide ((a0.length : Int) > (16 : Int))))
  (false, default, default, default, default)
  (cond ((Z42 a0 []).1)
    (false, default, default, default, default)
    (true, (Z42 a0 []).2, ([] : LB), [], []))
def driver_NewR (a0 : LZ) : RT :=
 (.ask (cond ((a0.length : Int) == (0 : Int)) true (decide ((a0.length : Int) > (16 : Int))))
   (.leaf .ret ⟨Za 65 [(2, .nilp)], []⟩ [])
   (.ask ((Z42 a0 []).1)
     (.leaf .ret ⟨Za 65 [(2, .nilp)], []⟩ [])
     (.leaf .ret ⟨Za 65 [(2, .ptr 0 0)], (.cells 87 [.map 1, .map 2, .map 3, .map 4] :: oM ((Z42 a0 []).2) ([] : LB) ([]) ([]) [])⟩ [])))
theorem driver_NewF_trA (a0 : LZ) (hp0 : a0.length < 4611686018427387904) (hp1 : ∀ z ∈ a0, z.name.size < 4611686018427387904) (hfl : (Z25 a0).1 = true) : Tr Tryz.prog 0 (Z3c Tryz.f38) (Z27 Tryz.f38 [.coll ⟨.zone, a0⟩] []) (Z48 Tryz.prog Tryz.f38 (.ptr 0 0) (.cells 87 [.map 1, .map 2, .map 3, .map 4] :: oM ((Z25 a0).2.1) ((Z25 a0).2.2.1) ((Z25 a0).2.2.2.1) ((Z25 a0).2.2.2.2) [])) := by
 refine Z2f (kok _ _ _ _ _ _) (E := Z242) (L := (Z5f [(0, Zd9 a0 0 [], [4, 0, 1, 2, 3], Z96 a0 0 [])])) 60 9999 (Z14.one (g := Z47 Tryz.f38 0) (b := 0) (by kernel_rfl) (by kernel_rfl) (by kernel_rfl) (by kernel_rfl) (fun Q h => Z24d a0 hp0 hp1 (by first | assumption | omega | (simp only [List.length_cons, List.length_nil, List.length_append]; omega)) ⟨(0, []), by first | exact Nat.zero_le _ | (show 0 ≤ a0.length; omega) | (show 0 ≤ a0.length; exact ⟨Nat.zero_le _, by assumption⟩) | (show 0 ≤ a0.length; simp)⟩ Q h)) (driver_NewR a0) (by kernel_rfl) (by kernel_rfl) (by kernel_rfl) ?_
 unfold driver_NewR
 refine ⟨fun h0 => ?_, fun h0 => ?_⟩
 · have hF : Z25 a0 = (false, default, default, default, default) := by first | exact (Z12 h0 rfl) | simp only [Z25, h0, cond_true, cond_false]
   exact absurd hfl (by rw [hF]; simp)
 · refine ⟨fun h1 => ?_, fun h1 => ?_⟩
   · have hF : Z25 a0 = (false, default, default, default, default) := by first | exact (Z3 h0 (Z12 h1 rfl)) | simp only [Z25, h0, h1, cond_true, cond_false]
     exact absurd hfl (by rw [hF]; simp)
   · have hF : Z25 a0 = (true, (Z42 a0 []).2, ([] : LB), [], []) := by first | exact (Z3 h0 (Z3 h1 rfl)) | simp only [Z25, h0, h1, cond_true, cond_false]
     exact ⟨trivial, .inl (by (try rw [hF]); kernel_rfl), by (try rw [hF]); kernel_rfl⟩
noncomputable def Z24e : Fact Tryz.prog := Z4b 38 Tryz.f38 (by kernel_rfl) rfl (by kernel_rfl) [.c (.coll .zone)] [] false (fun t u => .ptr 0 0) (fun t u => (.cells 87 [.map 1, .map 2, .map 3, .map 4] :: oM ((Z25 t.1).2.1) ((Z25 t.1).2.2.1) ((Z25 t.1).2.2.2.1) ((Z25 t.1).2.2.2.2) [])) (fun t u => [t.1.length < 4611686018427387904, ∀ z ∈ t.1, z.name.size < 4611686018427387904, (Z25 t.1).1 = true])
 (nofun) (fun t u => by kernel_rfl) (fun t u => by kernel_rfl) (fun t u h => driver_NewF_trA t.1 (h _ mS) (h _ (mN mS)) (h _ (mN (mN mS))))
end Go.Proofs.YtkledlcmhbjadaaGreat
