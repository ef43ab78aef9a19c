/- The document's driver: places. -/
import Derived.Test.YtkledlcmhbjadaaGreatDName
import Derived.Test.YtkledlcmhbjadaaGreatEE
set_option linter.unusedVariables false
set_option linter.unusedSimpArgs false
set_option maxRecDepth 100000
namespace Go.Proofs.YtkledlcmhbjadaaGreat
open Go Go.Eng
noncomputable def E_r10_ofSnap : Env := Z65 (P := Tryz.prog) [] [] [] ckf
def Z4a (a0 : Int) : Bool :=
 cond (a0 == (6 : Int)) true (a0 == (7 : Int))
def r10_ofSnapR (a0 : Int) : RT :=
 (.leaf .ret ⟨Za 9 [(2, .bool (cond (a0 == (6 : Int)) true (a0 == (7 : Int))))], []⟩ [])
theorem r10_ofSnapF_tr (a0 : Int)  : Tr Tryz.prog 0 (Z3c Tryz.f82) (Z27 Tryz.f82 [.int .u8 a0] []) (Z48 Tryz.prog Tryz.f82 (.bool (Z4a a0)) []) := by
 refine Z2f (kok _ _ _ _ _ _) (E := E_r10_ofSnap) (L := Z32) 60 9999 Z14.none (r10_ofSnapR a0) (by kernel_rfl) (by kernel_rfl) (by kernel_rfl) ?_
 unfold r10_ofSnapR
 exact ⟨trivial, .inl (by kernel_rfl), by kernel_rfl⟩
noncomputable def r10_ofSnap_fact : Fact Tryz.prog := Z4b 82 Tryz.f82 (by kernel_rfl) rfl (by kernel_rfl) [.c (.int .u8)] [] true (fun t u => .bool (Z4a t.1)) (fun t u => []) (fun t u => [])
 (fun _ _ _ => rfl) (fun t u => by kernel_rfl) (fun t u => by kernel_rfl) (fun t u h => r10_ofSnapF_tr t.1 )
noncomputable def E_rD_last : Env := Z65 (P := Tryz.prog) [r10_ofSnap_fact] [] [] ckf true
def Z5b (a1 : Int) (a2 : BA) : LQ → Nat → Bool × Int
 | [], i => (false, default)
 | o :: r, i => cond (cond (decide ((o.c.target) = a2)) ((Z4a (o.c.verb)) == (Z4a a1)) false)
  (true, (i : Int))
  (Z5b a1 a2 r (i + 1))
def Z165 (a1 : Int) (a2 : BA) (b1 : LZ) (b2 : LV) (b3 : LS) (b4 : LQ) (i : Nat) : St :=
 ⟨Za 48 [(0, .ptr 0 0), (1, .int .u8 a1), (2, .str a2), (7, .int .i64 (i : Int))], (.cells 111 [.vec 1, .vec 2, .vec 3, .vec 4] :: oV b1 b2 b3 b4 [])⟩
def rD_lastLR (a1 : Int) (a2 : BA) (b1 : LZ) (b2 : LV) (b3 : LS) (b4 : LQ) (i : Nat) : RT :=
 (.ask (decide ((i : Int) < (b4.length : Int)))
   (.need [0 ≤ (i : Int) ∧ (i : Int) < (b4.length : Int)]
     (.need [((decide (((b4.getD i default).c.target) = a2)) = true) → (0 ≤ (i : Int) ∧ (i : Int) < (b4.length : Int))]
       (.ask (cond (decide (((b4.getD i default).c.target) = a2)) ((Z4a ((b4.getD i default).c.verb)) == (Z4a a1)) false)
         (.leaf .ret ⟨Za 48 [(6, .int .i64 (i : Int))], (.cells 111 [.vec 1, .vec 2, .vec 3, .vec 4] :: oV b1 b2 b3 b4 [])⟩ [])
         (.leaf .normal ⟨Za 48 [(0, .ptr 0 0), (1, .int .u8 a1), (2, .str a2), (7, .int .i64 (IntKind.i64.wrap ((i : Int) + (1 : Int))))], (.cells 111 [.vec 1, .vec 2, .vec 3, .vec 4] :: oV b1 b2 b3 b4 [])⟩ []))))
   (.leaf (.exit 0) ⟨Za 48 [], (.cells 111 [.vec 1, .vec 2, .vec 3, .vec 4] :: oV b1 b2 b3 b4 [])⟩ []))
def Zd7 (a1 : Int) (a2 : BA) (b1 : LZ) (b2 : LV) (b3 : LS) (b4 : LQ) (i : Nat) : Tree :=
 .ask ((Z5b a1 a2 (b4.drop i) i).1) (.leaf .ret ⟨Za 48 [(6, .int .i64 ((Z5b a1 a2 (b4.drop i) i).2))], (.cells 111 [.vec 1, .vec 2, .vec 3, .vec 4] :: oV b1 b2 b3 b4 [])⟩) (.leaf (.exit 0) ⟨Za 48 [], (.cells 111 [.vec 1, .vec 2, .vec 3, .vec 4] :: oV b1 b2 b3 b4 [])⟩)
theorem rD_lastL_loop (a1 : Int) (a2 : BA) (b1 : LZ) (b2 : LV) (b3 : LS) (b4 : LQ) (hp0 : b1.length ≤ 1000) (hp1 : b2.length ≤ 1000) (hp2 : b3.length ≤ 1000) (hp3 : b4.length ≤ 1000) (hlen : b4.length < 4611686018427387904) (z : { z : Nat // z ≤ b4.length }) (Q : Exit → St → Prop) (h : (Zd7 a1 a2 b1 b2 b3 b4 z.1).All Q) : Tr Tryz.prog 5 (.loop (Z47 Tryz.f70 0)) (Z165 a1 a2 b1 b2 b3 b4 z.1) Q := by
 refine Z60 (kok _ _ _ _ _ _) (E := E_rD_last) (ι := { z : Nat // z ≤ b4.length }) 60 0 (fun _ => Z32) (fun z => Z165 a1 a2 b1 b2 b3 b4 z.1) (fun z => Zd7 a1 a2 b1 b2 b3 b4 z.1) (fun z => rD_lastLR a1 a2 b1 b2 b3 b4 z.1) (fun z => b4.length - z.1) (fun _ => Z14.none) (fun z => by obtain ⟨i, hi⟩ := z; kernel_rfl) (fun z => by obtain ⟨i, hi⟩ := z; kernel_rfl) (fun z => by obtain ⟨i, hi⟩ := z; kernel_rfl) ?_ z Q h
 rintro ⟨i, hi⟩ Q hT
 replace hT : (Zd7 a1 a2 b1 b2 b3 b4 i).All Q := hT
 replace hi : i ≤ b4.length := hi
 show (rD_lastLR a1 a2 b1 b2 b3 b4 i).All _
 unfold rD_lastLR
 refine ⟨fun h0 => ?_, fun h0 => ?_⟩
 · have hlt : i < b4.length := by simpa using h0
   have hd := Z64 hlt
   have hw := Z4e (i := i) (by omega)
   refine ⟨Z2 (by (try refine fun (_ : _ = _) => ?_); first | omega | (constructor <;> omega)) (Z9), ?_⟩
   refine ⟨Z2 (by (try refine fun (_ : _ = _) => ?_); first | omega | (constructor <;> omega)) (Z9), ?_⟩
   refine ⟨fun h1 => ?_, fun h1 => ?_⟩
   · have hF : Z5b a1 a2 (b4.drop i) i = (true, (i : Int)) := by rw [hd]; first | exact (Z12 h1 rfl) | simp only [Z5b, h0, h1, cond_true, cond_false]
     unfold Zd7 at hT
     rw [hF] at hT
     exact hT.1 rfl
   · have hF : Z5b a1 a2 (b4.drop i) i = Z5b a1 a2 (b4.drop (i + 1)) (i + 1) := by rw [hd]; first | exact (Z3 h1 rfl) | simp only [Z5b, h0, h1, cond_true, cond_false]
     refine ⟨⟨(i + 1), by show (i + 1) ≤ b4.length; omega⟩, by show b4.length - (i + 1) < b4.length - i; omega, ?_, ?_⟩
     · show _ = Z165 a1 a2 b1 b2 b3 b4 (i + 1)
       unfold Z165
       simp only [hw]
     · show (Zd7 a1 a2 b1 b2 b3 b4 (i + 1)).All Q
       unfold Zd7 at hT ⊢
       rw [hF] at hT
       exact hT
 · have hge : ¬ i < b4.length := by simpa using h0
   have hd : b4.drop i = [] := List.drop_eq_nil_of_le (by omega)
   have hF : Z5b a1 a2 (b4.drop i) i = (false, default) := by rw [hd]; first | exact rfl | simp only [Z5b, h0, cond_true, cond_false]
   unfold Zd7 at hT
   rw [hF] at hT
   exact hT.2 rfl
def Z1c (a1 : Int) (a2 : BA) (b1 : LZ) (b2 : LV) (b3 : LS) (b4 : LQ) : Int :=
 cond ((Z5b a1 a2 b4 0).1)
  ((Z5b a1 a2 b4 0).2)
  (-1 : Int)
def rD_lastR (a1 : Int) (a2 : BA) (b1 : LZ) (b2 : LV) (b3 : LS) (b4 : LQ) : RT :=
 (.ask ((Z5b a1 a2 b4 0).1)
   (.leaf .ret ⟨Za 48 [(6, .int .i64 ((Z5b a1 a2 b4 0).2))], (.cells 111 [.vec 1, .vec 2, .vec 3, .vec 4] :: oV b1 b2 b3 b4 [])⟩ [])
   (.leaf .ret ⟨Za 48 [(6, .int .i64 (-1))], (.cells 111 [.vec 1, .vec 2, .vec 3, .vec 4] :: oV b1 b2 b3 b4 [])⟩ []))
theorem rD_lastF_tr (a1 : Int) (a2 : BA) (b1 : LZ) (b2 : LV) (b3 : LS) (b4 : LQ) (hp0 : b1.length ≤ 1000) (hp1 : b2.length ≤ 1000) (hp2 : b3.length ≤ 1000) (hp3 : b4.length ≤ 1000) : Tr Tryz.prog 5 (Z3c Tryz.f70) (Z27 Tryz.f70 [.ptr 0 0, .int .u8 a1, .str a2] (.cells 111 [.vec 1, .vec 2, .vec 3, .vec 4] :: oV b1 b2 b3 b4 [])) (Z48 Tryz.prog Tryz.f70 (.int .i64 (Z1c a1 a2 b1 b2 b3 b4)) (.cells 111 [.vec 1, .vec 2, .vec 3, .vec 4] :: oV b1 b2 b3 b4 [])) := by
 refine Z2f (kok _ _ _ _ _ _) (E := E_rD_last) (L := (Z5f [(0, Z165 a1 a2 b1 b2 b3 b4 0, [], Zd7 a1 a2 b1 b2 b3 b4 0)])) 60 9999 (Z14.one (g := Z47 Tryz.f70 0) (b := 0) (by kernel_rfl) (by kernel_rfl) (by kernel_rfl) (by kernel_rfl) (fun Q h => rD_lastL_loop a1 a2 b1 b2 b3 b4 hp0 hp1 hp2 hp3 (by omega) ⟨0, by first | exact Nat.zero_le _ | (show 0 ≤ b4.length; omega) | (show 0 ≤ b4.length; exact ⟨Nat.zero_le _, by assumption⟩) | (show 0 ≤ b4.length; simp)⟩ Q h)) (rD_lastR a1 a2 b1 b2 b3 b4) (by kernel_rfl) (by kernel_rfl) (by kernel_rfl) ?_
 unfold rD_lastR
 refine ⟨fun h0 => ?_, fun h0 => ?_⟩
 · have hF : Z1c a1 a2 b1 b2 b3 b4 = ((Z5b a1 a2 b4 0).2) := by first | exact (Z12 h0 rfl) | simp only [Z1c, h0, cond_true, cond_false]
   exact ⟨trivial, .inl (by (try rw [hF]); kernel_rfl), by (try rw [hF]); kernel_rfl⟩
 · have hF : Z1c a1 a2 b1 b2 b3 b4 = (-1 : Int) := by first | exact (Z3 h0 rfl) | simp only [Z1c, h0, cond_true, cond_false]
   exact ⟨trivial, .inl (by (try rw [hF]); kernel_rfl), by (try rw [hF]); kernel_rfl⟩
noncomputable def rD_last_fact : Fact Tryz.prog := Z4b 70 Tryz.f70 (by kernel_rfl) rfl (by kernel_rfl) [.c (.ptr 0 0), .c (.int .u8), .c (.str)] [.cells 111 [.vec 1, .vec 2, .vec 3, .vec 4], .vec false .zone, .vec false .vol, .vec false .snap, .vec false .done] true (fun t u => .int .i64 (Z1c t.2.1 t.2.2.1 u.2.1 u.2.2.1 u.2.2.2.1 u.2.2.2.2.1)) (fun t u => HPL.enc _ u) (fun t u => [u.2.1.length ≤ 1000, u.2.2.1.length ≤ 1000, u.2.2.2.1.length ≤ 1000, u.2.2.2.2.1.length ≤ 1000])
 (fun _ _ _ => rfl) (fun t u => by kernel_rfl) (fun t u => by kernel_rfl) (fun t u h => rD_lastF_tr t.2.1 t.2.2.1 u.2.1 u.2.2.1 u.2.2.2.1 u.2.2.2.2.1 (h _ mS) (h _ (mN mS)) (h _ (mN (mN mS))) (h _ (mN (mN (mN mS)))))
noncomputable def E_rD_vol : Env := Z65 (P := Tryz.prog) [] [] [] ckf true
def Z69 (a1 : BA) : LV → Nat → Bool × Int
 | [], i => (false, default)
 | o :: r, i => cond (decide ((o.name) = a1))
  (true, (i : Int))
  (Z69 a1 r (i + 1))
def Z1de (a1 : BA) (b1 : LZ) (b2 : LV) (b3 : LS) (b4 : LQ) (i : Nat) : St :=
 ⟨Za 30 [(0, .ptr 0 0), (1, .str a1), (5, .int .i64 (i : Int))], (.cells 111 [.vec 1, .vec 2, .vec 3, .vec 4] :: oV b1 b2 b3 b4 [])⟩
def rD_volLR (a1 : BA) (b1 : LZ) (b2 : LV) (b3 : LS) (b4 : LQ) (i : Nat) : RT :=
 (.ask (decide ((i : Int) < (b2.length : Int)))
   (.need [0 ≤ (i : Int) ∧ (i : Int) < (b2.length : Int)]
     (.ask (decide (((b2.getD i default).name) = a1))
       (.leaf .ret ⟨Za 30 [(4, .int .i64 (i : Int))], (.cells 111 [.vec 1, .vec 2, .vec 3, .vec 4] :: oV b1 b2 b3 b4 [])⟩ [])
       (.leaf .normal ⟨Za 30 [(0, .ptr 0 0), (1, .str a1), (5, .int .i64 (IntKind.i64.wrap ((i : Int) + (1 : Int))))], (.cells 111 [.vec 1, .vec 2, .vec 3, .vec 4] :: oV b1 b2 b3 b4 [])⟩ [])))
   (.leaf (.exit 0) ⟨Za 30 [], (.cells 111 [.vec 1, .vec 2, .vec 3, .vec 4] :: oV b1 b2 b3 b4 [])⟩ []))
def Z100 (a1 : BA) (b1 : LZ) (b2 : LV) (b3 : LS) (b4 : LQ) (i : Nat) : Tree :=
 .ask ((Z69 a1 (b2.drop i) i).1) (.leaf .ret ⟨Za 30 [(4, .int .i64 ((Z69 a1 (b2.drop i) i).2))], (.cells 111 [.vec 1, .vec 2, .vec 3, .vec 4] :: oV b1 b2 b3 b4 [])⟩) (.leaf (.exit 0) ⟨Za 30 [], (.cells 111 [.vec 1, .vec 2, .vec 3, .vec 4] :: oV b1 b2 b3 b4 [])⟩)
theorem rD_volL_loop (a1 : BA) (b1 : LZ) (b2 : LV) (b3 : LS) (b4 : LQ) (hp0 : b1.length ≤ 1000) (hp1 : b2.length ≤ 1000) (hp2 : b3.length ≤ 1000) (hp3 : b4.length ≤ 1000) (hlen : b2.length < 4611686018427387904) (z : { z : Nat // z ≤ b2.length }) (Q : Exit → St → Prop) (h : (Z100 a1 b1 b2 b3 b4 z.1).All Q) : Tr Tryz.prog 5 (.loop (Z47 Tryz.f72 0)) (Z1de a1 b1 b2 b3 b4 z.1) Q := by
 refine Z60 (kok _ _ _ _ _ _) (E := E_rD_vol) (ι := { z : Nat // z ≤ b2.length }) 60 0 (fun _ => Z32) (fun z => Z1de a1 b1 b2 b3 b4 z.1) (fun z => Z100 a1 b1 b2 b3 b4 z.1) (fun z => rD_volLR a1 b1 b2 b3 b4 z.1) (fun z => b2.length - z.1) (fun _ => Z14.none) (fun z => by obtain ⟨i, hi⟩ := z; kernel_rfl) (fun z => by obtain ⟨i, hi⟩ := z; kernel_rfl) (fun z => by obtain ⟨i, hi⟩ := z; kernel_rfl) ?_ z Q h
 rintro ⟨i, hi⟩ Q hT
 replace hT : (Z100 a1 b1 b2 b3 b4 i).All Q := hT
 replace hi : i ≤ b2.length := hi
 show (rD_volLR a1 b1 b2 b3 b4 i).All _
 unfold rD_volLR
 refine ⟨fun h0 => ?_, fun h0 => ?_⟩
 · have hlt : i < b2.length := by simpa using h0
   have hd := Z64 hlt
   have hw := Z4e (i := i) (by omega)
   refine ⟨Z2 (by (try refine fun (_ : _ = _) => ?_); first | omega | (constructor <;> omega)) (Z9), ?_⟩
   refine ⟨fun h1 => ?_, fun h1 => ?_⟩
   · have hF : Z69 a1 (b2.drop i) i = (true, (i : Int)) := by rw [hd]; first | exact (Z12 h1 rfl) | simp only [Z69, h0, h1, cond_true, cond_false]
     unfold Z100 at hT
     rw [hF] at hT
     exact hT.1 rfl
   · have hF : Z69 a1 (b2.drop i) i = Z69 a1 (b2.drop (i + 1)) (i + 1) := by rw [hd]; first | exact (Z3 h1 rfl) | simp only [Z69, h0, h1, cond_true, cond_false]
     refine ⟨⟨(i + 1), by show (i + 1) ≤ b2.length; omega⟩, by show b2.length - (i + 1) < b2.length - i; omega, ?_, ?_⟩
     · show _ = Z1de a1 b1 b2 b3 b4 (i + 1)
       unfold Z1de
       simp only [hw]
     · show (Z100 a1 b1 b2 b3 b4 (i + 1)).All Q
       unfold Z100 at hT ⊢
       rw [hF] at hT
       exact hT
 · have hge : ¬ i < b2.length := by simpa using h0
   have hd : b2.drop i = [] := List.drop_eq_nil_of_le (by omega)
   have hF : Z69 a1 (b2.drop i) i = (false, default) := by rw [hd]; first | exact rfl | simp only [Z69, h0, cond_true, cond_false]
   unfold Z100 at hT
   rw [hF] at hT
   exact hT.2 rfl
def Z5 (a1 : BA) (b1 : LZ) (b2 : LV) (b3 : LS) (b4 : LQ) : Int :=
 cond ((Z69 a1 b2 0).1)
  ((Z69 a1 b2 0).2)
  (-1 : Int)
def rD_volR (a1 : BA) (b1 : LZ) (b2 : LV) (b3 : LS) (b4 : LQ) : RT :=
 (.ask ((Z69 a1 b2 0).1)
   (.leaf .ret ⟨Za 30 [(4, .int .i64 ((Z69 a1 b2 0).2))], (.cells 111 [.vec 1, .vec 2, .vec 3, .vec 4] :: oV b1 b2 b3 b4 [])⟩ [])
   (.leaf .ret ⟨Za 30 [(4, .int .i64 (-1))], (.cells 111 [.vec 1, .vec 2, .vec 3, .vec 4] :: oV b1 b2 b3 b4 [])⟩ []))
theorem rD_volF_tr (a1 : BA) (b1 : LZ) (b2 : LV) (b3 : LS) (b4 : LQ) (hp0 : b1.length ≤ 1000) (hp1 : b2.length ≤ 1000) (hp2 : b3.length ≤ 1000) (hp3 : b4.length ≤ 1000) : Tr Tryz.prog 5 (Z3c Tryz.f72) (Z27 Tryz.f72 [.ptr 0 0, .str a1] (.cells 111 [.vec 1, .vec 2, .vec 3, .vec 4] :: oV b1 b2 b3 b4 [])) (Z48 Tryz.prog Tryz.f72 (.int .i64 (Z5 a1 b1 b2 b3 b4)) (.cells 111 [.vec 1, .vec 2, .vec 3, .vec 4] :: oV b1 b2 b3 b4 [])) := by
 refine Z2f (kok _ _ _ _ _ _) (E := E_rD_vol) (L := (Z5f [(0, Z1de a1 b1 b2 b3 b4 0, [], Z100 a1 b1 b2 b3 b4 0)])) 60 9999 (Z14.one (g := Z47 Tryz.f72 0) (b := 0) (by kernel_rfl) (by kernel_rfl) (by kernel_rfl) (by kernel_rfl) (fun Q h => rD_volL_loop a1 b1 b2 b3 b4 hp0 hp1 hp2 hp3 (by omega) ⟨0, by first | exact Nat.zero_le _ | (show 0 ≤ b2.length; omega) | (show 0 ≤ b2.length; exact ⟨Nat.zero_le _, by assumption⟩) | (show 0 ≤ b2.length; simp)⟩ Q h)) (rD_volR a1 b1 b2 b3 b4) (by kernel_rfl) (by kernel_rfl) (by kernel_rfl) ?_
 unfold rD_volR
 refine ⟨fun h0 => ?_, fun h0 => ?_⟩
 · have hF : Z5 a1 b1 b2 b3 b4 = ((Z69 a1 b2 0).2) := by first | exact (Z12 h0 rfl) | simp only [Z5, h0, cond_true, cond_false]
   exact ⟨trivial, .inl (by (try rw [hF]); kernel_rfl), by (try rw [hF]); kernel_rfl⟩
 · have hF : Z5 a1 b1 b2 b3 b4 = (-1 : Int) := by first | exact (Z3 h0 rfl) | simp only [Z5, h0, cond_true, cond_false]
   exact ⟨trivial, .inl (by (try rw [hF]); kernel_rfl), by (try rw [hF]); kernel_rfl⟩
noncomputable def Z135 : Fact Tryz.prog := Z4b 72 Tryz.f72 (by kernel_rfl) rfl (by kernel_rfl) [.c (.ptr 0 0), .c (.str)] [.cells 111 [.vec 1, .vec 2, .vec 3, .vec 4], .vec false .zone, .vec false .vol, .vec false .snap, .vec false .done] true (fun t u => .int .i64 (Z5 t.2.1 u.2.1 u.2.2.1 u.2.2.2.1 u.2.2.2.2.1)) (fun t u => HPL.enc _ u) (fun t u => [u.2.1.length ≤ 1000, u.2.2.1.length ≤ 1000, u.2.2.2.1.length ≤ 1000, u.2.2.2.2.1.length ≤ 1000])
 (fun _ _ _ => rfl) (fun t u => by kernel_rfl) (fun t u => by kernel_rfl) (fun t u h => rD_volF_tr t.2.1 u.2.1 u.2.2.1 u.2.2.2.1 u.2.2.2.2.1 (h _ mS) (h _ (mN mS)) (h _ (mN (mN mS))) (h _ (mN (mN (mN mS)))))
noncomputable def E_rD_snap : Env := Z65 (P := Tryz.prog) [] [] [] ckf true
def Z5a (a1 : BA) : LS → Nat → Bool × Int
 | [], i => (false, default)
 | o :: r, i => cond (decide ((o.name) = a1))
  (true, (i : Int))
  (Z5a a1 r (i + 1))
def Z164 (a1 : BA) (b1 : LZ) (b2 : LV) (b3 : LS) (b4 : LQ) (i : Nat) : St :=
 ⟨Za 30 [(0, .ptr 0 0), (1, .str a1), (5, .int .i64 (i : Int))], (.cells 111 [.vec 1, .vec 2, .vec 3, .vec 4] :: oV b1 b2 b3 b4 [])⟩
def rD_snapLR (a1 : BA) (b1 : LZ) (b2 : LV) (b3 : LS) (b4 : LQ) (i : Nat) : RT :=
 (.ask (decide ((i : Int) < (b3.length : Int)))
   (.need [0 ≤ (i : Int) ∧ (i : Int) < (b3.length : Int)]
     (.ask (decide (((b3.getD i default).name) = a1))
       (.leaf .ret ⟨Za 30 [(4, .int .i64 (i : Int))], (.cells 111 [.vec 1, .vec 2, .vec 3, .vec 4] :: oV b1 b2 b3 b4 [])⟩ [])
       (.leaf .normal ⟨Za 30 [(0, .ptr 0 0), (1, .str a1), (5, .int .i64 (IntKind.i64.wrap ((i : Int) + (1 : Int))))], (.cells 111 [.vec 1, .vec 2, .vec 3, .vec 4] :: oV b1 b2 b3 b4 [])⟩ [])))
   (.leaf (.exit 0) ⟨Za 30 [], (.cells 111 [.vec 1, .vec 2, .vec 3, .vec 4] :: oV b1 b2 b3 b4 [])⟩ []))
def Zd6 (a1 : BA) (b1 : LZ) (b2 : LV) (b3 : LS) (b4 : LQ) (i : Nat) : Tree :=
 .ask ((Z5a a1 (b3.drop i) i).1) (.leaf .ret ⟨Za 30 [(4, .int .i64 ((Z5a a1 (b3.drop i) i).2))], (.cells 111 [.vec 1, .vec 2, .vec 3, .vec 4] :: oV b1 b2 b3 b4 [])⟩) (.leaf (.exit 0) ⟨Za 30 [], (.cells 111 [.vec 1, .vec 2, .vec 3, .vec 4] :: oV b1 b2 b3 b4 [])⟩)
theorem rD_snapL_loop (a1 : BA) (b1 : LZ) (b2 : LV) (b3 : LS) (b4 : LQ) (hp0 : b1.length ≤ 1000) (hp1 : b2.length ≤ 1000) (hp2 : b3.length ≤ 1000) (hp3 : b4.length ≤ 1000) (hlen : b3.length < 4611686018427387904) (z : { z : Nat // z ≤ b3.length }) (Q : Exit → St → Prop) (h : (Zd6 a1 b1 b2 b3 b4 z.1).All Q) : Tr Tryz.prog 5 (.loop (Z47 Tryz.f89 0)) (Z164 a1 b1 b2 b3 b4 z.1) Q := by
 refine Z60 (kok _ _ _ _ _ _) (E := E_rD_snap) (ι := { z : Nat // z ≤ b3.length }) 60 0 (fun _ => Z32) (fun z => Z164 a1 b1 b2 b3 b4 z.1) (fun z => Zd6 a1 b1 b2 b3 b4 z.1) (fun z => rD_snapLR a1 b1 b2 b3 b4 z.1) (fun z => b3.length - z.1) (fun _ => Z14.none) (fun z => by obtain ⟨i, hi⟩ := z; kernel_rfl) (fun z => by obtain ⟨i, hi⟩ := z; kernel_rfl) (fun z => by obtain ⟨i, hi⟩ := z; kernel_rfl) ?_ z Q h
 rintro ⟨i, hi⟩ Q hT
 replace hT : (Zd6 a1 b1 b2 b3 b4 i).All Q := hT
 replace hi : i ≤ b3.length := hi
 show (rD_snapLR a1 b1 b2 b3 b4 i).All _
 unfold rD_snapLR
 refine ⟨fun h0 => ?_, fun h0 => ?_⟩
 · have hlt : i < b3.length := by simpa using h0
   have hd := Z64 hlt
   have hw := Z4e (i := i) (by omega)
   refine ⟨Z2 (by (try refine fun (_ : _ = _) => ?_); first | omega | (constructor <;> omega)) (Z9), ?_⟩
   refine ⟨fun h1 => ?_, fun h1 => ?_⟩
   · have hF : Z5a a1 (b3.drop i) i = (true, (i : Int)) := by rw [hd]; first | exact (Z12 h1 rfl) | simp only [Z5a, h0, h1, cond_true, cond_false]
     unfold Zd6 at hT
     rw [hF] at hT
     exact hT.1 rfl
   · have hF : Z5a a1 (b3.drop i) i = Z5a a1 (b3.drop (i + 1)) (i + 1) := by rw [hd]; first | exact (Z3 h1 rfl) | simp only [Z5a, h0, h1, cond_true, cond_false]
     refine ⟨⟨(i + 1), by show (i + 1) ≤ b3.length; omega⟩, by show b3.length - (i + 1) < b3.length - i; omega, ?_, ?_⟩
     · show _ = Z164 a1 b1 b2 b3 b4 (i + 1)
       unfold Z164
       simp only [hw]
     · show (Zd6 a1 b1 b2 b3 b4 (i + 1)).All Q
       unfold Zd6 at hT ⊢
       rw [hF] at hT
       exact hT
 · have hge : ¬ i < b3.length := by simpa using h0
   have hd : b3.drop i = [] := List.drop_eq_nil_of_le (by omega)
   have hF : Z5a a1 (b3.drop i) i = (false, default) := by rw [hd]; first | exact rfl | simp only [Z5a, h0, cond_true, cond_false]
   unfold Zd6 at hT
   rw [hF] at hT
   exact hT.2 rfl
def Z24 (a1 : BA) (b1 : LZ) (b2 : LV) (b3 : LS) (b4 : LQ) : Int :=
 cond ((Z5a a1 b3 0).1)
  ((Z5a a1 b3 0).2)
  (-1 : Int)
def rD_snapR (a1 : BA) (b1 : LZ) (b2 : LV) (b3 : LS) (b4 : LQ) : RT :=
 (.ask ((Z5a a1 b3 0).1)
   (.leaf .ret ⟨Za 30 [(4, .int .i64 ((Z5a a1 b3 0).2))], (.cells 111 [.vec 1, .vec 2, .vec 3, .vec 4] :: oV b1 b2 b3 b4 [])⟩ [])
   (.leaf .ret ⟨Za 30 [(4, .int .i64 (-1))], (.cells 111 [.vec 1, .vec 2, .vec 3, .vec 4] :: oV b1 b2 b3 b4 [])⟩ []))
theorem rD_snapF_tr (a1 : BA) (b1 : LZ) (b2 : LV) (b3 : LS) (b4 : LQ) (hp0 : b1.length ≤ 1000) (hp1 : b2.length ≤ 1000) (hp2 : b3.length ≤ 1000) (hp3 : b4.length ≤ 1000) : Tr Tryz.prog 5 (Z3c Tryz.f89) (Z27 Tryz.f89 [.ptr 0 0, .str a1] (.cells 111 [.vec 1, .vec 2, .vec 3, .vec 4] :: oV b1 b2 b3 b4 [])) (Z48 Tryz.prog Tryz.f89 (.int .i64 (Z24 a1 b1 b2 b3 b4)) (.cells 111 [.vec 1, .vec 2, .vec 3, .vec 4] :: oV b1 b2 b3 b4 [])) := by
 refine Z2f (kok _ _ _ _ _ _) (E := E_rD_snap) (L := (Z5f [(0, Z164 a1 b1 b2 b3 b4 0, [], Zd6 a1 b1 b2 b3 b4 0)])) 60 9999 (Z14.one (g := Z47 Tryz.f89 0) (b := 0) (by kernel_rfl) (by kernel_rfl) (by kernel_rfl) (by kernel_rfl) (fun Q h => rD_snapL_loop a1 b1 b2 b3 b4 hp0 hp1 hp2 hp3 (by omega) ⟨0, by first | exact Nat.zero_le _ | (show 0 ≤ b3.length; omega) | (show 0 ≤ b3.length; exact ⟨Nat.zero_le _, by assumption⟩) | (show 0 ≤ b3.length; simp)⟩ Q h)) (rD_snapR a1 b1 b2 b3 b4) (by kernel_rfl) (by kernel_rfl) (by kernel_rfl) ?_
 unfold rD_snapR
 refine ⟨fun h0 => ?_, fun h0 => ?_⟩
 · have hF : Z24 a1 b1 b2 b3 b4 = ((Z5a a1 b3 0).2) := by first | exact (Z12 h0 rfl) | simp only [Z24, h0, cond_true, cond_false]
   exact ⟨trivial, .inl (by (try rw [hF]); kernel_rfl), by (try rw [hF]); kernel_rfl⟩
 · have hF : Z24 a1 b1 b2 b3 b4 = (-1 : Int) := by first | exact (Z3 h0 rfl) | simp only [Z24, h0, cond_true, cond_false]
   exact ⟨trivial, .inl (by (try rw [hF]); kernel_rfl), by (try rw [hF]); kernel_rfl⟩
noncomputable def Z163 : Fact Tryz.prog := Z4b 89 Tryz.f89 (by kernel_rfl) rfl (by kernel_rfl) [.c (.ptr 0 0), .c (.str)] [.cells 111 [.vec 1, .vec 2, .vec 3, .vec 4], .vec false .zone, .vec false .vol, .vec false .snap, .vec false .done] true (fun t u => .int .i64 (Z24 t.2.1 u.2.1 u.2.2.1 u.2.2.2.1 u.2.2.2.2.1)) (fun t u => HPL.enc _ u) (fun t u => [u.2.1.length ≤ 1000, u.2.2.1.length ≤ 1000, u.2.2.2.1.length ≤ 1000, u.2.2.2.2.1.length ≤ 1000])
 (fun _ _ _ => rfl) (fun t u => by kernel_rfl) (fun t u => by kernel_rfl) (fun t u h => rD_snapF_tr t.2.1 u.2.1 u.2.2.1 u.2.2.2.1 u.2.2.2.2.1 (h _ mS) (h _ (mN mS)) (h _ (mN (mN mS))) (h _ (mN (mN (mN mS)))))
noncomputable def E_rD_zone : Env := Z65 (P := Tryz.prog) [] [] [] ckf true
def Z53 (a1 : BA) : LZ → Nat → Bool × Int
 | [], i => (false, default)
 | o :: r, i => cond (decide ((o.name) = a1))
  (true, (i : Int))
  (Z53 a1 r (i + 1))
def Z162 (a1 : BA) (b1 : LZ) (b2 : LV) (b3 : LS) (b4 : LQ) (i : Nat) : St :=
 ⟨Za 30 [(0, .ptr 0 0), (1, .str a1), (5, .int .i64 (i : Int))], (.cells 111 [.vec 1, .vec 2, .vec 3, .vec 4] :: oV b1 b2 b3 b4 [])⟩
def rD_zoneLR (a1 : BA) (b1 : LZ) (b2 : LV) (b3 : LS) (b4 : LQ) (i : Nat) : RT :=
 (.ask (decide ((i : Int) < (b1.length : Int)))
   (.need [0 ≤ (i : Int) ∧ (i : Int) < (b1.length : Int)]
     (.ask (decide (((b1.getD i default).name) = a1))
       (.leaf .ret ⟨Za 30 [(4, .int .i64 (i : Int))], (.cells 111 [.vec 1, .vec 2, .vec 3, .vec 4] :: oV b1 b2 b3 b4 [])⟩ [])
       (.leaf .normal ⟨Za 30 [(0, .ptr 0 0), (1, .str a1), (5, .int .i64 (IntKind.i64.wrap ((i : Int) + (1 : Int))))], (.cells 111 [.vec 1, .vec 2, .vec 3, .vec 4] :: oV b1 b2 b3 b4 [])⟩ [])))
   (.leaf (.exit 0) ⟨Za 30 [], (.cells 111 [.vec 1, .vec 2, .vec 3, .vec 4] :: oV b1 b2 b3 b4 [])⟩ []))
def Zd5 (a1 : BA) (b1 : LZ) (b2 : LV) (b3 : LS) (b4 : LQ) (i : Nat) : Tree :=
 .ask ((Z53 a1 (b1.drop i) i).1) (.leaf .ret ⟨Za 30 [(4, .int .i64 ((Z53 a1 (b1.drop i) i).2))], (.cells 111 [.vec 1, .vec 2, .vec 3, .vec 4] :: oV b1 b2 b3 b4 [])⟩) (.leaf (.exit 0) ⟨Za 30 [], (.cells 111 [.vec 1, .vec 2, .vec 3, .vec 4] :: oV b1 b2 b3 b4 [])⟩)
theorem rD_zoneL_loop (a1 : BA) (b1 : LZ) (b2 : LV) (b3 : LS) (b4 : LQ) (hp0 : b1.length ≤ 1000) (hp1 : b2.length ≤ 1000) (hp2 : b3.length ≤ 1000) (hp3 : b4.length ≤ 1000) (hlen : b1.length < 4611686018427387904) (z : { z : Nat // z ≤ b1.length }) (Q : Exit → St → Prop) (h : (Zd5 a1 b1 b2 b3 b4 z.1).All Q) : Tr Tryz.prog 5 (.loop (Z47 Tryz.f73 0)) (Z162 a1 b1 b2 b3 b4 z.1) Q := by
 refine Z60 (kok _ _ _ _ _ _) (E := E_rD_zone) (ι := { z : Nat // z ≤ b1.length }) 60 0 (fun _ => Z32) (fun z => Z162 a1 b1 b2 b3 b4 z.1) (fun z => Zd5 a1 b1 b2 b3 b4 z.1) (fun z => rD_zoneLR a1 b1 b2 b3 b4 z.1) (fun z => b1.length - z.1) (fun _ => Z14.none) (fun z => by obtain ⟨i, hi⟩ := z; kernel_rfl) (fun z => by obtain ⟨i, hi⟩ := z; kernel_rfl) (fun z => by obtain ⟨i, hi⟩ := z; kernel_rfl) ?_ z Q h
 rintro ⟨i, hi⟩ Q hT
 replace hT : (Zd5 a1 b1 b2 b3 b4 i).All Q := hT
 replace hi : i ≤ b1.length := hi
 show (rD_zoneLR a1 b1 b2 b3 b4 i).All _
 unfold rD_zoneLR
 refine ⟨fun h0 => ?_, fun h0 => ?_⟩
 · have hlt : i < b1.length := by simpa using h0
   have hd := Z64 hlt
   have hw := Z4e (i := i) (by omega)
   refine ⟨Z2 (by (try refine fun (_ : _ = _) => ?_); first | omega | (constructor <;> omega)) (Z9), ?_⟩
   refine ⟨fun h1 => ?_, fun h1 => ?_⟩
   · have hF : Z53 a1 (b1.drop i) i = (true, (i : Int)) := by rw [hd]; first | exact (Z12 h1 rfl) | simp only [Z53, h0, h1, cond_true, cond_false]
     unfold Zd5 at hT
     rw [hF] at hT
     exact hT.1 rfl
   · have hF : Z53 a1 (b1.drop i) i = Z53 a1 (b1.drop (i + 1)) (i + 1) := by rw [hd]; first | exact (Z3 h1 rfl) | simp only [Z53, h0, h1, cond_true, cond_false]
     refine ⟨⟨(i + 1), by show (i + 1) ≤ b1.length; omega⟩, by show b1.length - (i + 1) < b1.length - i; omega, ?_, ?_⟩
     · show _ = Z162 a1 b1 b2 b3 b4 (i + 1)
       unfold Z162
       simp only [hw]
     · show (Zd5 a1 b1 b2 b3 b4 (i + 1)).All Q
       unfold Zd5 at hT ⊢
       rw [hF] at hT
       exact hT
 · have hge : ¬ i < b1.length := by simpa using h0
   have hd : b1.drop i = [] := List.drop_eq_nil_of_le (by omega)
   have hF : Z53 a1 (b1.drop i) i = (false, default) := by rw [hd]; first | exact rfl | simp only [Z53, h0, cond_true, cond_false]
   unfold Zd5 at hT
   rw [hF] at hT
   exact hT.2 rfl
def Z16 (a1 : BA) (b1 : LZ) (b2 : LV) (b3 : LS) (b4 : LQ) : Int :=
 cond ((Z53 a1 b1 0).1)
  ((Z53 a1 b1 0).2)
  (-1 : Int)
def rD_zoneR (a1 : BA) (b1 : LZ) (b2 : LV) (b3 : LS) (b4 : LQ) : RT :=
 (.ask ((Z53 a1 b1 0).1)
   (.leaf .ret ⟨Za 30 [(4, .int .i64 ((Z53 a1 b1 0).2))], (.cells 111 [.vec 1, .vec 2, .vec 3, .vec 4] :: oV b1 b2 b3 b4 [])⟩ [])
   (.leaf .ret ⟨Za 30 [(4, .int .i64 (-1))], (.cells 111 [.vec 1, .vec 2, .vec 3, .vec 4] :: oV b1 b2 b3 b4 [])⟩ []))
theorem rD_zoneF_tr (a1 : BA) (b1 : LZ) (b2 : LV) (b3 : LS) (b4 : LQ) (hp0 : b1.length ≤ 1000) (hp1 : b2.length ≤ 1000) (hp2 : b3.length ≤ 1000) (hp3 : b4.length ≤ 1000) : Tr Tryz.prog 5 (Z3c Tryz.f73) (Z27 Tryz.f73 [.ptr 0 0, .str a1] (.cells 111 [.vec 1, .vec 2, .vec 3, .vec 4] :: oV b1 b2 b3 b4 [])) (Z48 Tryz.prog Tryz.f73 (.int .i64 (Z16 a1 b1 b2 b3 b4)) (.cells 111 [.vec 1, .vec 2, .vec 3, .vec 4] :: oV b1 b2 b3 b4 [])) := by
 refine Z2f (kok _ _ _ _ _ _) (E := E_rD_zone) (L := (Z5f [(0, Z162 a1 b1 b2 b3 b4 0, [], Zd5 a1 b1 b2 b3 b4 0)])) 60 9999 (Z14.one (g := Z47 Tryz.f73 0) (b := 0) (by kernel_rfl) (by kernel_rfl) (by kernel_rfl) (by kernel_rfl) (fun Q h => rD_zoneL_loop a1 b1 b2 b3 b4 hp0 hp1 hp2 hp3 (by omega) ⟨0, by first | exact Nat.zero_le _ | (show 0 ≤ b1.length; omega) | (show 0 ≤ b1.length; exact ⟨Nat.zero_le _, by assumption⟩) | (show 0 ≤ b1.length; simp)⟩ Q h)) (rD_zoneR a1 b1 b2 b3 b4) (by kernel_rfl) (by kernel_rfl) (by kernel_rfl) ?_
 unfold rD_zoneR
 refine ⟨fun h0 => ?_, fun h0 => ?_⟩
 · have hF : Z16 a1 b1 b2 b3 b4 = ((Z53 a1 b1 0).2) := by first | exact (Z12 h0 rfl) | simp only [Z16, h0, cond_true, cond_false]
   exact ⟨trivial, .inl (by (try rw [hF]); kernel_rfl), by (try rw [hF]); kernel_rfl⟩
 · have hF : Z16 a1 b1 b2 b3 b4 = (-1 : Int) := by first | exact (Z3 h0 rfl) | simp only [Z16, h0, cond_true, cond_false]
   exact ⟨trivial, .inl (by (try rw [hF]); kernel_rfl), by (try rw [hF]); kernel_rfl⟩
noncomputable def Z161 : Fact Tryz.prog := Z4b 73 Tryz.f73 (by kernel_rfl) rfl (by kernel_rfl) [.c (.ptr 0 0), .c (.str)] [.cells 111 [.vec 1, .vec 2, .vec 3, .vec 4], .vec false .zone, .vec false .vol, .vec false .snap, .vec false .done] true (fun t u => .int .i64 (Z16 t.2.1 u.2.1 u.2.2.1 u.2.2.2.1 u.2.2.2.2.1)) (fun t u => HPL.enc _ u) (fun t u => [u.2.1.length ≤ 1000, u.2.2.1.length ≤ 1000, u.2.2.2.1.length ≤ 1000, u.2.2.2.2.1.length ≤ 1000])
 (fun _ _ _ => rfl) (fun t u => by kernel_rfl) (fun t u => by kernel_rfl) (fun t u h => rD_zoneF_tr t.2.1 u.2.1 u.2.2.1 u.2.2.2.1 u.2.2.2.2.1 (h _ mS) (h _ (mN mS)) (h _ (mN (mN mS))) (h _ (mN (mN (mN mS)))))
end Go.Proofs.YtkledlcmhbjadaaGreat
