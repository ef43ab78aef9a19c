/- The document's driver: places. -/
import Derived.Test.YtpffbkbadnhmmaaDName
import Derived.Test.YtpffbkbadnhmmaaEE
set_option linter.unusedVariables false
set_option linter.unusedSimpArgs false
set_option maxRecDepth 100000
namespace Go.Proofs.Ytpffbkbadnhmmaa
open Go Go.Eng
noncomputable def E_r10_ofSnap : Env := Z62 (P := Try.prog) [] [] [] ckf
def Z4b (a0 : Int) : Bool :=
 cond (a0 == (6 : Int)) true (a0 == (7 : Int))
def r10_ofSnapR (a0 : Int) : RT :=
 (.leaf .ret ⟨Z9 9 [(2, .bool (cond (a0 == (6 : Int)) true (a0 == (7 : Int))))], []⟩ [])
theorem r10_ofSnapF_tr (a0 : Int)  : Tr Try.prog 0 (Z3b Try.f107) (Z25 Try.f107 [.int .u8 a0] []) (Z46 Try.prog Try.f107 (.bool (Z4b a0)) []) := by
 refine Z2f (kok _ _ _ _ _ _) (E := E_r10_ofSnap) (L := Z30) 60 9999 Z13.none (r10_ofSnapR a0) (by kernel_rfl) (by kernel_rfl) (by kernel_rfl) ?_
 unfold r10_ofSnapR
 exact ⟨trivial, .inl (by kernel_rfl), by kernel_rfl⟩
noncomputable def r10_ofSnap_fact : Fact Try.prog := Z4f 107 Try.f107 (by kernel_rfl) rfl (by kernel_rfl) [.c (.int .u8)] [] true (fun t u => .bool (Z4b t.1)) (fun t u => []) (fun t u => [])
 (fun _ _ _ => rfl) (fun t u => by kernel_rfl) (fun t u => by kernel_rfl) (fun t u h => r10_ofSnapF_tr t.1 )
noncomputable def E_rD_last : Env := Z62 (P := Try.prog) [r10_ofSnap_fact] [] [] ckf true
def Z59 (a1 : Int) (a2 : BA) : LQ → Nat → Bool × Int
 | [], i => (false, default)
 | o :: r, i => cond (cond (decide ((o.c.target) = a2)) ((Z4b (o.c.verb)) == (Z4b a1)) false)
  (true, (i : Int))
  (Z59 a1 a2 r (i + 1))
def Z15e (a1 : Int) (a2 : BA) (b1 : LZ) (b2 : LV) (b3 : LS) (b4 : LQ) (i : Nat) : St :=
 ⟨Z9 48 [(0, .ptr 0 0), (1, .int .u8 a1), (2, .str a2), (7, .int .i64 (i : Int))], (.cells 106 [.vec 1, .vec 2, .vec 3, .vec 4] :: oV b1 b2 b3 b4 [])⟩
def rD_lastLR (a1 : Int) (a2 : BA) (b1 : LZ) (b2 : LV) (b3 : LS) (b4 : LQ) (i : Nat) : RT :=
 (.ask (decide ((i : Int) < (b4.length : Int)))
   (.need [0 ≤ (i : Int) ∧ (i : Int) < (b4.length : Int)]
     (.need [((decide (((b4.getD i default).c.target) = a2)) = true) → (0 ≤ (i : Int) ∧ (i : Int) < (b4.length : Int))]
       (.ask (cond (decide (((b4.getD i default).c.target) = a2)) ((Z4b ((b4.getD i default).c.verb)) == (Z4b a1)) false)
         (.leaf .ret ⟨Z9 48 [(6, .int .i64 (i : Int))], (.cells 106 [.vec 1, .vec 2, .vec 3, .vec 4] :: oV b1 b2 b3 b4 [])⟩ [])
         (.leaf .normal ⟨Z9 48 [(0, .ptr 0 0), (1, .int .u8 a1), (2, .str a2), (7, .int .i64 (IntKind.i64.wrap ((i : Int) + (1 : Int))))], (.cells 106 [.vec 1, .vec 2, .vec 3, .vec 4] :: oV b1 b2 b3 b4 [])⟩ []))))
   (.leaf (.exit 0) ⟨Z9 48 [], (.cells 106 [.vec 1, .vec 2, .vec 3, .vec 4] :: oV b1 b2 b3 b4 [])⟩ []))
def Zd4 (a1 : Int) (a2 : BA) (b1 : LZ) (b2 : LV) (b3 : LS) (b4 : LQ) (i : Nat) : Tree :=
 .ask ((Z59 a1 a2 (b4.drop i) i).1) (.leaf .ret ⟨Z9 48 [(6, .int .i64 ((Z59 a1 a2 (b4.drop i) i).2))], (.cells 106 [.vec 1, .vec 2, .vec 3, .vec 4] :: oV b1 b2 b3 b4 [])⟩) (.leaf (.exit 0) ⟨Z9 48 [], (.cells 106 [.vec 1, .vec 2, .vec 3, .vec 4] :: oV b1 b2 b3 b4 [])⟩)
theorem rD_lastL_loop (a1 : Int) (a2 : BA) (b1 : LZ) (b2 : LV) (b3 : LS) (b4 : LQ) (hp0 : b1.length ≤ 1000) (hp1 : b2.length ≤ 1000) (hp2 : b3.length ≤ 1000) (hp3 : b4.length ≤ 1000) (hlen : b4.length < 4611686018427387904) (z : { z : Nat // z ≤ b4.length }) (Q : Exit → St → Prop) (h : (Zd4 a1 a2 b1 b2 b3 b4 z.1).All Q) : Tr Try.prog 5 (.loop (Z47 Try.f94 0)) (Z15e a1 a2 b1 b2 b3 b4 z.1) Q := by
 refine Z61 (kok _ _ _ _ _ _) (E := E_rD_last) (ι := { z : Nat // z ≤ b4.length }) 60 0 (fun _ => Z30) (fun z => Z15e a1 a2 b1 b2 b3 b4 z.1) (fun z => Zd4 a1 a2 b1 b2 b3 b4 z.1) (fun z => rD_lastLR a1 a2 b1 b2 b3 b4 z.1) (fun z => b4.length - z.1) (fun _ => Z13.none) (fun z => by obtain ⟨i, hi⟩ := z; kernel_rfl) (fun z => by obtain ⟨i, hi⟩ := z; kernel_rfl) (fun z => by obtain ⟨i, hi⟩ := z; kernel_rfl) ?_ z Q h
 rintro ⟨i, hi⟩ Q hT
 replace hT : (Zd4 a1 a2 b1 b2 b3 b4 i).All Q := hT
 replace hi : i ≤ b4.length := hi
 show (rD_lastLR a1 a2 b1 b2 b3 b4 i).All _
 unfold rD_lastLR
 refine ⟨fun h0 => ?_, fun h0 => ?_⟩
 · have hlt : i < b4.length := by simpa using h0
   have hd := Z64 hlt
   have hw := Z50 (i := i) (by omega)
   refine ⟨Z2 (by (try refine fun (_ : _ = _) => ?_); first | omega | (constructor <;> omega)) (Z7), ?_⟩
   refine ⟨Z2 (by (try refine fun (_ : _ = _) => ?_); first | omega | (constructor <;> omega)) (Z7), ?_⟩
   refine ⟨fun h1 => ?_, fun h1 => ?_⟩
   · have hF : Z59 a1 a2 (b4.drop i) i = (true, (i : Int)) := by rw [hd]; first | exact (Z11 h1 rfl) | simp only [Z59, h0, h1, cond_true, cond_false]
     unfold Zd4 at hT
     rw [hF] at hT
     exact hT.1 rfl
   · have hF : Z59 a1 a2 (b4.drop i) i = Z59 a1 a2 (b4.drop (i + 1)) (i + 1) := by rw [hd]; first | exact (Z3 h1 rfl) | simp only [Z59, h0, h1, cond_true, cond_false]
     refine ⟨⟨(i + 1), by show (i + 1) ≤ b4.length; omega⟩, by show b4.length - (i + 1) < b4.length - i; omega, ?_, ?_⟩
     · show _ = Z15e a1 a2 b1 b2 b3 b4 (i + 1)
       unfold Z15e
       simp only [hw]
     · show (Zd4 a1 a2 b1 b2 b3 b4 (i + 1)).All Q
       unfold Zd4 at hT ⊢
       rw [hF] at hT
       exact hT
 · have hge : ¬ i < b4.length := by simpa using h0
   have hd : b4.drop i = [] := List.drop_eq_nil_of_le (by omega)
   have hF : Z59 a1 a2 (b4.drop i) i = (false, default) := by rw [hd]; first | exact rfl | simp only [Z59, h0, cond_true, cond_false]
   unfold Zd4 at hT
   rw [hF] at hT
   exact hT.2 rfl
def Z29 (a1 : Int) (a2 : BA) (b1 : LZ) (b2 : LV) (b3 : LS) (b4 : LQ) : Int :=
 cond ((Z59 a1 a2 b4 0).1)
  ((Z59 a1 a2 b4 0).2)
  (-1 : Int)
def rD_lastR (a1 : Int) (a2 : BA) (b1 : LZ) (b2 : LV) (b3 : LS) (b4 : LQ) : RT :=
 (.ask ((Z59 a1 a2 b4 0).1)
   (.leaf .ret ⟨Z9 48 [(6, .int .i64 ((Z59 a1 a2 b4 0).2))], (.cells 106 [.vec 1, .vec 2, .vec 3, .vec 4] :: oV b1 b2 b3 b4 [])⟩ [])
   (.leaf .ret ⟨Z9 48 [(6, .int .i64 (-1))], (.cells 106 [.vec 1, .vec 2, .vec 3, .vec 4] :: oV b1 b2 b3 b4 [])⟩ []))
theorem rD_lastF_tr (a1 : Int) (a2 : BA) (b1 : LZ) (b2 : LV) (b3 : LS) (b4 : LQ) (hp0 : b1.length ≤ 1000) (hp1 : b2.length ≤ 1000) (hp2 : b3.length ≤ 1000) (hp3 : b4.length ≤ 1000) : Tr Try.prog 5 (Z3b Try.f94) (Z25 Try.f94 [.ptr 0 0, .int .u8 a1, .str a2] (.cells 106 [.vec 1, .vec 2, .vec 3, .vec 4] :: oV b1 b2 b3 b4 [])) (Z46 Try.prog Try.f94 (.int .i64 (Z29 a1 a2 b1 b2 b3 b4)) (.cells 106 [.vec 1, .vec 2, .vec 3, .vec 4] :: oV b1 b2 b3 b4 [])) := by
 refine Z2f (kok _ _ _ _ _ _) (E := E_rD_last) (L := (Z5f [(0, Z15e a1 a2 b1 b2 b3 b4 0, [], Zd4 a1 a2 b1 b2 b3 b4 0)])) 60 9999 (Z13.one (g := Z47 Try.f94 0) (b := 0) (by kernel_rfl) (by kernel_rfl) (by kernel_rfl) (by kernel_rfl) (fun Q h => rD_lastL_loop a1 a2 b1 b2 b3 b4 hp0 hp1 hp2 hp3 (by omega) ⟨0, by first | exact Nat.zero_le _ | (show 0 ≤ b4.length; omega) | (show 0 ≤ b4.length; exact ⟨Nat.zero_le _, by assumption⟩) | (show 0 ≤ b4.length; simp)⟩ Q h)) (rD_lastR a1 a2 b1 b2 b3 b4) (by kernel_rfl) (by kernel_rfl) (by kernel_rfl) ?_
 unfold rD_lastR
 refine ⟨fun h0 => ?_, fun h0 => ?_⟩
 · have hF : Z29 a1 a2 b1 b2 b3 b4 = ((Z59 a1 a2 b4 0).2) := by first | exact (Z11 h0 rfl) | simp only [Z29, h0, cond_true, cond_false]
   exact ⟨trivial, .inl (by (try rw [hF]); kernel_rfl), by (try rw [hF]); kernel_rfl⟩
 · have hF : Z29 a1 a2 b1 b2 b3 b4 = (-1 : Int) := by first | exact (Z3 h0 rfl) | simp only [Z29, h0, cond_true, cond_false]
   exact ⟨trivial, .inl (by (try rw [hF]); kernel_rfl), by (try rw [hF]); kernel_rfl⟩
noncomputable def rD_last_fact : Fact Try.prog := Z4f 94 Try.f94 (by kernel_rfl) rfl (by kernel_rfl) [.c (.ptr 0 0), .c (.int .u8), .c (.str)] [.cells 106 [.vec 1, .vec 2, .vec 3, .vec 4], .vec false .zone, .vec false .vol, .vec false .snap, .vec false .done] true (fun t u => .int .i64 (Z29 t.2.1 t.2.2.1 u.2.1 u.2.2.1 u.2.2.2.1 u.2.2.2.2.1)) (fun t u => HPL.enc _ u) (fun t u => [u.2.1.length ≤ 1000, u.2.2.1.length ≤ 1000, u.2.2.2.1.length ≤ 1000, u.2.2.2.2.1.length ≤ 1000])
 (fun _ _ _ => rfl) (fun t u => by kernel_rfl) (fun t u => by kernel_rfl) (fun t u h => rD_lastF_tr t.2.1 t.2.2.1 u.2.1 u.2.2.1 u.2.2.2.1 u.2.2.2.2.1 (h _ mS) (h _ (mN mS)) (h _ (mN (mN mS))) (h _ (mN (mN (mN mS)))))
noncomputable def E_rD_vol : Env := Z62 (P := Try.prog) [] [] [] ckf true
def Z65 (a1 : BA) : LV → Nat → Bool × Int
 | [], i => (false, default)
 | o :: r, i => cond (decide ((o.name) = a1))
  (true, (i : Int))
  (Z65 a1 r (i + 1))
def Z1d8 (a1 : BA) (b1 : LZ) (b2 : LV) (b3 : LS) (b4 : LQ) (i : Nat) : St :=
 ⟨Z9 30 [(0, .ptr 0 0), (1, .str a1), (5, .int .i64 (i : Int))], (.cells 106 [.vec 1, .vec 2, .vec 3, .vec 4] :: oV b1 b2 b3 b4 [])⟩
def rD_volLR (a1 : BA) (b1 : LZ) (b2 : LV) (b3 : LS) (b4 : LQ) (i : Nat) : RT :=
 (.ask (decide ((i : Int) < (b2.length : Int)))
   (.need [0 ≤ (i : Int) ∧ (i : Int) < (b2.length : Int)]
     (.ask (decide (((b2.getD i default).name) = a1))
       (.leaf .ret ⟨Z9 30 [(4, .int .i64 (i : Int))], (.cells 106 [.vec 1, .vec 2, .vec 3, .vec 4] :: oV b1 b2 b3 b4 [])⟩ [])
       (.leaf .normal ⟨Z9 30 [(0, .ptr 0 0), (1, .str a1), (5, .int .i64 (IntKind.i64.wrap ((i : Int) + (1 : Int))))], (.cells 106 [.vec 1, .vec 2, .vec 3, .vec 4] :: oV b1 b2 b3 b4 [])⟩ [])))
   (.leaf (.exit 0) ⟨Z9 30 [], (.cells 106 [.vec 1, .vec 2, .vec 3, .vec 4] :: oV b1 b2 b3 b4 [])⟩ []))
def Zfc (a1 : BA) (b1 : LZ) (b2 : LV) (b3 : LS) (b4 : LQ) (i : Nat) : Tree :=
 .ask ((Z65 a1 (b2.drop i) i).1) (.leaf .ret ⟨Z9 30 [(4, .int .i64 ((Z65 a1 (b2.drop i) i).2))], (.cells 106 [.vec 1, .vec 2, .vec 3, .vec 4] :: oV b1 b2 b3 b4 [])⟩) (.leaf (.exit 0) ⟨Z9 30 [], (.cells 106 [.vec 1, .vec 2, .vec 3, .vec 4] :: oV b1 b2 b3 b4 [])⟩)
theorem rD_volL_loop (a1 : BA) (b1 : LZ) (b2 : LV) (b3 : LS) (b4 : LQ) (hp0 : b1.length ≤ 1000) (hp1 : b2.length ≤ 1000) (hp2 : b3.length ≤ 1000) (hp3 : b4.length ≤ 1000) (hlen : b2.length < 4611686018427387904) (z : { z : Nat // z ≤ b2.length }) (Q : Exit → St → Prop) (h : (Zfc a1 b1 b2 b3 b4 z.1).All Q) : Tr Try.prog 5 (.loop (Z47 Try.f96 0)) (Z1d8 a1 b1 b2 b3 b4 z.1) Q := by
 refine Z61 (kok _ _ _ _ _ _) (E := E_rD_vol) (ι := { z : Nat // z ≤ b2.length }) 60 0 (fun _ => Z30) (fun z => Z1d8 a1 b1 b2 b3 b4 z.1) (fun z => Zfc a1 b1 b2 b3 b4 z.1) (fun z => rD_volLR a1 b1 b2 b3 b4 z.1) (fun z => b2.length - z.1) (fun _ => Z13.none) (fun z => by obtain ⟨i, hi⟩ := z; kernel_rfl) (fun z => by obtain ⟨i, hi⟩ := z; kernel_rfl) (fun z => by obtain ⟨i, hi⟩ := z; kernel_rfl) ?_ z Q h
 rintro ⟨i, hi⟩ Q hT
 replace hT : (Zfc a1 b1 b2 b3 b4 i).All Q := hT
 replace hi : i ≤ b2.length := hi
 show (rD_volLR a1 b1 b2 b3 b4 i).All _
 unfold rD_volLR
 refine ⟨fun h0 => ?_, fun h0 => ?_⟩
 · have hlt : i < b2.length := by simpa using h0
   have hd := Z64 hlt
   have hw := Z50 (i := i) (by omega)
   refine ⟨Z2 (by (try refine fun (_ : _ = _) => ?_); first | omega | (constructor <;> omega)) (Z7), ?_⟩
   refine ⟨fun h1 => ?_, fun h1 => ?_⟩
   · have hF : Z65 a1 (b2.drop i) i = (true, (i : Int)) := by rw [hd]; first | exact (Z11 h1 rfl) | simp only [Z65, h0, h1, cond_true, cond_false]
     unfold Zfc at hT
     rw [hF] at hT
     exact hT.1 rfl
   · have hF : Z65 a1 (b2.drop i) i = Z65 a1 (b2.drop (i + 1)) (i + 1) := by rw [hd]; first | exact (Z3 h1 rfl) | simp only [Z65, h0, h1, cond_true, cond_false]
     refine ⟨⟨(i + 1), by show (i + 1) ≤ b2.length; omega⟩, by show b2.length - (i + 1) < b2.length - i; omega, ?_, ?_⟩
     · show _ = Z1d8 a1 b1 b2 b3 b4 (i + 1)
       unfold Z1d8
       simp only [hw]
     · show (Zfc a1 b1 b2 b3 b4 (i + 1)).All Q
       unfold Zfc at hT ⊢
       rw [hF] at hT
       exact hT
 · have hge : ¬ i < b2.length := by simpa using h0
   have hd : b2.drop i = [] := List.drop_eq_nil_of_le (by omega)
   have hF : Z65 a1 (b2.drop i) i = (false, default) := by rw [hd]; first | exact rfl | simp only [Z65, h0, cond_true, cond_false]
   unfold Zfc at hT
   rw [hF] at hT
   exact hT.2 rfl
def Z5 (a1 : BA) (b1 : LZ) (b2 : LV) (b3 : LS) (b4 : LQ) : Int :=
 cond ((Z65 a1 b2 0).1)
  ((Z65 a1 b2 0).2)
  (-1 : Int)
def rD_volR (a1 : BA) (b1 : LZ) (b2 : LV) (b3 : LS) (b4 : LQ) : RT :=
 (.ask ((Z65 a1 b2 0).1)
   (.leaf .ret ⟨Z9 30 [(4, .int .i64 ((Z65 a1 b2 0).2))], (.cells 106 [.vec 1, .vec 2, .vec 3, .vec 4] :: oV b1 b2 b3 b4 [])⟩ [])
   (.leaf .ret ⟨Z9 30 [(4, .int .i64 (-1))], (.cells 106 [.vec 1, .vec 2, .vec 3, .vec 4] :: oV b1 b2 b3 b4 [])⟩ []))
theorem rD_volF_tr (a1 : BA) (b1 : LZ) (b2 : LV) (b3 : LS) (b4 : LQ) (hp0 : b1.length ≤ 1000) (hp1 : b2.length ≤ 1000) (hp2 : b3.length ≤ 1000) (hp3 : b4.length ≤ 1000) : Tr Try.prog 5 (Z3b Try.f96) (Z25 Try.f96 [.ptr 0 0, .str a1] (.cells 106 [.vec 1, .vec 2, .vec 3, .vec 4] :: oV b1 b2 b3 b4 [])) (Z46 Try.prog Try.f96 (.int .i64 (Z5 a1 b1 b2 b3 b4)) (.cells 106 [.vec 1, .vec 2, .vec 3, .vec 4] :: oV b1 b2 b3 b4 [])) := by
 refine Z2f (kok _ _ _ _ _ _) (E := E_rD_vol) (L := (Z5f [(0, Z1d8 a1 b1 b2 b3 b4 0, [], Zfc a1 b1 b2 b3 b4 0)])) 60 9999 (Z13.one (g := Z47 Try.f96 0) (b := 0) (by kernel_rfl) (by kernel_rfl) (by kernel_rfl) (by kernel_rfl) (fun Q h => rD_volL_loop a1 b1 b2 b3 b4 hp0 hp1 hp2 hp3 (by omega) ⟨0, by first | exact Nat.zero_le _ | (show 0 ≤ b2.length; omega) | (show 0 ≤ b2.length; exact ⟨Nat.zero_le _, by assumption⟩) | (show 0 ≤ b2.length; simp)⟩ Q h)) (rD_volR a1 b1 b2 b3 b4) (by kernel_rfl) (by kernel_rfl) (by kernel_rfl) ?_
 unfold rD_volR
 refine ⟨fun h0 => ?_, fun h0 => ?_⟩
 · have hF : Z5 a1 b1 b2 b3 b4 = ((Z65 a1 b2 0).2) := by first | exact (Z11 h0 rfl) | simp only [Z5, h0, cond_true, cond_false]
   exact ⟨trivial, .inl (by (try rw [hF]); kernel_rfl), by (try rw [hF]); kernel_rfl⟩
 · have hF : Z5 a1 b1 b2 b3 b4 = (-1 : Int) := by first | exact (Z3 h0 rfl) | simp only [Z5, h0, cond_true, cond_false]
   exact ⟨trivial, .inl (by (try rw [hF]); kernel_rfl), by (try rw [hF]); kernel_rfl⟩
noncomputable def Z12b : Fact Try.prog := Z4f 96 Try.f96 (by kernel_rfl) rfl (by kernel_rfl) [.c (.ptr 0 0), .c (.str)] [.cells 106 [.vec 1, .vec 2, .vec 3, .vec 4], .vec false .zone, .vec false .vol, .vec false .snap, .vec false .done] true (fun t u => .int .i64 (Z5 t.2.1 u.2.1 u.2.2.1 u.2.2.2.1 u.2.2.2.2.1)) (fun t u => HPL.enc _ u) (fun t u => [u.2.1.length ≤ 1000, u.2.2.1.length ≤ 1000, u.2.2.2.1.length ≤ 1000, u.2.2.2.2.1.length ≤ 1000])
 (fun _ _ _ => rfl) (fun t u => by kernel_rfl) (fun t u => by kernel_rfl) (fun t u h => rD_volF_tr t.2.1 u.2.1 u.2.2.1 u.2.2.2.1 u.2.2.2.2.1 (h _ mS) (h _ (mN mS)) (h _ (mN (mN mS))) (h _ (mN (mN (mN mS)))))
noncomputable def E_rD_snap : Env := Z62 (P := Try.prog) [] [] [] ckf true
def Z58 (a1 : BA) : LS → Nat → Bool × Int
 | [], i => (false, default)
 | o :: r, i => cond (decide ((o.name) = a1))
  (true, (i : Int))
  (Z58 a1 r (i + 1))
def Z15d (a1 : BA) (b1 : LZ) (b2 : LV) (b3 : LS) (b4 : LQ) (i : Nat) : St :=
 ⟨Z9 30 [(0, .ptr 0 0), (1, .str a1), (5, .int .i64 (i : Int))], (.cells 106 [.vec 1, .vec 2, .vec 3, .vec 4] :: oV b1 b2 b3 b4 [])⟩
def rD_snapLR (a1 : BA) (b1 : LZ) (b2 : LV) (b3 : LS) (b4 : LQ) (i : Nat) : RT :=
 (.ask (decide ((i : Int) < (b3.length : Int)))
   (.need [0 ≤ (i : Int) ∧ (i : Int) < (b3.length : Int)]
     (.ask (decide (((b3.getD i default).name) = a1))
       (.leaf .ret ⟨Z9 30 [(4, .int .i64 (i : Int))], (.cells 106 [.vec 1, .vec 2, .vec 3, .vec 4] :: oV b1 b2 b3 b4 [])⟩ [])
       (.leaf .normal ⟨Z9 30 [(0, .ptr 0 0), (1, .str a1), (5, .int .i64 (IntKind.i64.wrap ((i : Int) + (1 : Int))))], (.cells 106 [.vec 1, .vec 2, .vec 3, .vec 4] :: oV b1 b2 b3 b4 [])⟩ [])))
   (.leaf (.exit 0) ⟨Z9 30 [], (.cells 106 [.vec 1, .vec 2, .vec 3, .vec 4] :: oV b1 b2 b3 b4 [])⟩ []))
def Zd3 (a1 : BA) (b1 : LZ) (b2 : LV) (b3 : LS) (b4 : LQ) (i : Nat) : Tree :=
 .ask ((Z58 a1 (b3.drop i) i).1) (.leaf .ret ⟨Z9 30 [(4, .int .i64 ((Z58 a1 (b3.drop i) i).2))], (.cells 106 [.vec 1, .vec 2, .vec 3, .vec 4] :: oV b1 b2 b3 b4 [])⟩) (.leaf (.exit 0) ⟨Z9 30 [], (.cells 106 [.vec 1, .vec 2, .vec 3, .vec 4] :: oV b1 b2 b3 b4 [])⟩)
theorem rD_snapL_loop (a1 : BA) (b1 : LZ) (b2 : LV) (b3 : LS) (b4 : LQ) (hp0 : b1.length ≤ 1000) (hp1 : b2.length ≤ 1000) (hp2 : b3.length ≤ 1000) (hp3 : b4.length ≤ 1000) (hlen : b3.length < 4611686018427387904) (z : { z : Nat // z ≤ b3.length }) (Q : Exit → St → Prop) (h : (Zd3 a1 b1 b2 b3 b4 z.1).All Q) : Tr Try.prog 5 (.loop (Z47 Try.f114 0)) (Z15d a1 b1 b2 b3 b4 z.1) Q := by
 refine Z61 (kok _ _ _ _ _ _) (E := E_rD_snap) (ι := { z : Nat // z ≤ b3.length }) 60 0 (fun _ => Z30) (fun z => Z15d a1 b1 b2 b3 b4 z.1) (fun z => Zd3 a1 b1 b2 b3 b4 z.1) (fun z => rD_snapLR a1 b1 b2 b3 b4 z.1) (fun z => b3.length - z.1) (fun _ => Z13.none) (fun z => by obtain ⟨i, hi⟩ := z; kernel_rfl) (fun z => by obtain ⟨i, hi⟩ := z; kernel_rfl) (fun z => by obtain ⟨i, hi⟩ := z; kernel_rfl) ?_ z Q h
 rintro ⟨i, hi⟩ Q hT
 replace hT : (Zd3 a1 b1 b2 b3 b4 i).All Q := hT
 replace hi : i ≤ b3.length := hi
 show (rD_snapLR a1 b1 b2 b3 b4 i).All _
 unfold rD_snapLR
 refine ⟨fun h0 => ?_, fun h0 => ?_⟩
 · have hlt : i < b3.length := by simpa using h0
   have hd := Z64 hlt
   have hw := Z50 (i := i) (by omega)
   refine ⟨Z2 (by (try refine fun (_ : _ = _) => ?_); first | omega | (constructor <;> omega)) (Z7), ?_⟩
   refine ⟨fun h1 => ?_, fun h1 => ?_⟩
   · have hF : Z58 a1 (b3.drop i) i = (true, (i : Int)) := by rw [hd]; first | exact (Z11 h1 rfl) | simp only [Z58, h0, h1, cond_true, cond_false]
     unfold Zd3 at hT
     rw [hF] at hT
     exact hT.1 rfl
   · have hF : Z58 a1 (b3.drop i) i = Z58 a1 (b3.drop (i + 1)) (i + 1) := by rw [hd]; first | exact (Z3 h1 rfl) | simp only [Z58, h0, h1, cond_true, cond_false]
     refine ⟨⟨(i + 1), by show (i + 1) ≤ b3.length; omega⟩, by show b3.length - (i + 1) < b3.length - i; omega, ?_, ?_⟩
     · show _ = Z15d a1 b1 b2 b3 b4 (i + 1)
       unfold Z15d
       simp only [hw]
     · show (Zd3 a1 b1 b2 b3 b4 (i + 1)).All Q
       unfold Zd3 at hT ⊢
       rw [hF] at hT
       exact hT
 · have hge : ¬ i < b3.length := by simpa using h0
   have hd : b3.drop i = [] := List.drop_eq_nil_of_le (by omega)
   have hF : Z58 a1 (b3.drop i) i = (false, default) := by rw [hd]; first | exact rfl | simp only [Z58, h0, cond_true, cond_false]
   unfold Zd3 at hT
   rw [hF] at hT
   exact hT.2 rfl
def Z21 (a1 : BA) (b1 : LZ) (b2 : LV) (b3 : LS) (b4 : LQ) : Int :=
 cond ((Z58 a1 b3 0).1)
  ((Z58 a1 b3 0).2)
  (-1 : Int)
def rD_snapR (a1 : BA) (b1 : LZ) (b2 : LV) (b3 : LS) (b4 : LQ) : RT :=
 (.ask ((Z58 a1 b3 0).1)
   (.leaf .ret ⟨Z9 30 [(4, .int .i64 ((Z58 a1 b3 0).2))], (.cells 106 [.vec 1, .vec 2, .vec 3, .vec 4] :: oV b1 b2 b3 b4 [])⟩ [])
   (.leaf .ret ⟨Z9 30 [(4, .int .i64 (-1))], (.cells 106 [.vec 1, .vec 2, .vec 3, .vec 4] :: oV b1 b2 b3 b4 [])⟩ []))
theorem rD_snapF_tr (a1 : BA) (b1 : LZ) (b2 : LV) (b3 : LS) (b4 : LQ) (hp0 : b1.length ≤ 1000) (hp1 : b2.length ≤ 1000) (hp2 : b3.length ≤ 1000) (hp3 : b4.length ≤ 1000) : Tr Try.prog 5 (Z3b Try.f114) (Z25 Try.f114 [.ptr 0 0, .str a1] (.cells 106 [.vec 1, .vec 2, .vec 3, .vec 4] :: oV b1 b2 b3 b4 [])) (Z46 Try.prog Try.f114 (.int .i64 (Z21 a1 b1 b2 b3 b4)) (.cells 106 [.vec 1, .vec 2, .vec 3, .vec 4] :: oV b1 b2 b3 b4 [])) := by
 refine Z2f (kok _ _ _ _ _ _) (E := E_rD_snap) (L := (Z5f [(0, Z15d a1 b1 b2 b3 b4 0, [], Zd3 a1 b1 b2 b3 b4 0)])) 60 9999 (Z13.one (g := Z47 Try.f114 0) (b := 0) (by kernel_rfl) (by kernel_rfl) (by kernel_rfl) (by kernel_rfl) (fun Q h => rD_snapL_loop a1 b1 b2 b3 b4 hp0 hp1 hp2 hp3 (by omega) ⟨0, by first | exact Nat.zero_le _ | (show 0 ≤ b3.length; omega) | (show 0 ≤ b3.length; exact ⟨Nat.zero_le _, by assumption⟩) | (show 0 ≤ b3.length; simp)⟩ Q h)) (rD_snapR a1 b1 b2 b3 b4) (by kernel_rfl) (by kernel_rfl) (by kernel_rfl) ?_
 unfold rD_snapR
 refine ⟨fun h0 => ?_, fun h0 => ?_⟩
 · have hF : Z21 a1 b1 b2 b3 b4 = ((Z58 a1 b3 0).2) := by first | exact (Z11 h0 rfl) | simp only [Z21, h0, cond_true, cond_false]
   exact ⟨trivial, .inl (by (try rw [hF]); kernel_rfl), by (try rw [hF]); kernel_rfl⟩
 · have hF : Z21 a1 b1 b2 b3 b4 = (-1 : Int) := by first | exact (Z3 h0 rfl) | simp only [Z21, h0, cond_true, cond_false]
   exact ⟨trivial, .inl (by (try rw [hF]); kernel_rfl), by (try rw [hF]); kernel_rfl⟩
noncomputable def Z15c : Fact Try.prog := Z4f 114 Try.f114 (by kernel_rfl) rfl (by kernel_rfl) [.c (.ptr 0 0), .c (.str)] [.cells 106 [.vec 1, .vec 2, .vec 3, .vec 4], .vec false .zone, .vec false .vol, .vec false .snap, .vec false .done] true (fun t u => .int .i64 (Z21 t.2.1 u.2.1 u.2.2.1 u.2.2.2.1 u.2.2.2.2.1)) (fun t u => HPL.enc _ u) (fun t u => [u.2.1.length ≤ 1000, u.2.2.1.length ≤ 1000, u.2.2.2.1.length ≤ 1000, u.2.2.2.2.1.length ≤ 1000])
 (fun _ _ _ => rfl) (fun t u => by kernel_rfl) (fun t u => by kernel_rfl) (fun t u h => rD_snapF_tr t.2.1 u.2.1 u.2.2.1 u.2.2.2.1 u.2.2.2.2.1 (h _ mS) (h _ (mN mS)) (h _ (mN (mN mS))) (h _ (mN (mN (mN mS)))))
noncomputable def E_rD_zone : Env := Z62 (P := Try.prog) [] [] [] ckf true
def Z51 (a1 : BA) : LZ → Nat → Bool × Int
 | [], i => (false, default)
 | o :: r, i => cond (decide ((o.name) = a1))
  (true, (i : Int))
  (Z51 a1 r (i + 1))
def Z15b (a1 : BA) (b1 : LZ) (b2 : LV) (b3 : LS) (b4 : LQ) (i : Nat) : St :=
 ⟨Z9 30 [(0, .ptr 0 0), (1, .str a1), (5, .int .i64 (i : Int))], (.cells 106 [.vec 1, .vec 2, .vec 3, .vec 4] :: oV b1 b2 b3 b4 [])⟩
def rD_zoneLR (a1 : BA) (b1 : LZ) (b2 : LV) (b3 : LS) (b4 : LQ) (i : Nat) : RT :=
 (.ask (decide ((i : Int) < (b1.length : Int)))
   (.need [0 ≤ (i : Int) ∧ (i : Int) < (b1.length : Int)]
     (.ask (decide (((b1.getD i default).name) = a1))
       (.leaf .ret ⟨Z9 30 [(4, .int .i64 (i : Int))], (.cells 106 [.vec 1, .vec 2, .vec 3, .vec 4] :: oV b1 b2 b3 b4 [])⟩ [])
       (.leaf .normal ⟨Z9 30 [(0, .ptr 0 0), (1, .str a1), (5, .int .i64 (IntKind.i64.wrap ((i : Int) + (1 : Int))))], (.cells 106 [.vec 1, .vec 2, .vec 3, .vec 4] :: oV b1 b2 b3 b4 [])⟩ [])))
   (.leaf (.exit 0) ⟨Z9 30 [], (.cells 106 [.vec 1, .vec 2, .vec 3, .vec 4] :: oV b1 b2 b3 b4 [])⟩ []))
def Zd2 (a1 : BA) (b1 : LZ) (b2 : LV) (b3 : LS) (b4 : LQ) (i : Nat) : Tree :=
 .ask ((Z51 a1 (b1.drop i) i).1) (.leaf .ret ⟨Z9 30 [(4, .int .i64 ((Z51 a1 (b1.drop i) i).2))], (.cells 106 [.vec 1, .vec 2, .vec 3, .vec 4] :: oV b1 b2 b3 b4 [])⟩) (.leaf (.exit 0) ⟨Z9 30 [], (.cells 106 [.vec 1, .vec 2, .vec 3, .vec 4] :: oV b1 b2 b3 b4 [])⟩)
theorem rD_zoneL_loop (a1 : BA) (b1 : LZ) (b2 : LV) (b3 : LS) (b4 : LQ) (hp0 : b1.length ≤ 1000) (hp1 : b2.length ≤ 1000) (hp2 : b3.length ≤ 1000) (hp3 : b4.length ≤ 1000) (hlen : b1.length < 4611686018427387904) (z : { z : Nat // z ≤ b1.length }) (Q : Exit → St → Prop) (h : (Zd2 a1 b1 b2 b3 b4 z.1).All Q) : Tr Try.prog 5 (.loop (Z47 Try.f93 0)) (Z15b a1 b1 b2 b3 b4 z.1) Q := by
 refine Z61 (kok _ _ _ _ _ _) (E := E_rD_zone) (ι := { z : Nat // z ≤ b1.length }) 60 0 (fun _ => Z30) (fun z => Z15b a1 b1 b2 b3 b4 z.1) (fun z => Zd2 a1 b1 b2 b3 b4 z.1) (fun z => rD_zoneLR a1 b1 b2 b3 b4 z.1) (fun z => b1.length - z.1) (fun _ => Z13.none) (fun z => by obtain ⟨i, hi⟩ := z; kernel_rfl) (fun z => by obtain ⟨i, hi⟩ := z; kernel_rfl) (fun z => by obtain ⟨i, hi⟩ := z; kernel_rfl) ?_ z Q h
 rintro ⟨i, hi⟩ Q hT
 replace hT : (Zd2 a1 b1 b2 b3 b4 i).All Q := hT
 replace hi : i ≤ b1.length := hi
 show (rD_zoneLR a1 b1 b2 b3 b4 i).All _
 unfold rD_zoneLR
 refine ⟨fun h0 => ?_, fun h0 => ?_⟩
 · have hlt : i < b1.length := by simpa using h0
   have hd := Z64 hlt
   have hw := Z50 (i := i) (by omega)
   refine ⟨Z2 (by (try refine fun (_ : _ = _) => ?_); first | omega | (constructor <;> omega)) (Z7), ?_⟩
   refine ⟨fun h1 => ?_, fun h1 => ?_⟩
   · have hF : Z51 a1 (b1.drop i) i = (true, (i : Int)) := by rw [hd]; first | exact (Z11 h1 rfl) | simp only [Z51, h0, h1, cond_true, cond_false]
     unfold Zd2 at hT
     rw [hF] at hT
     exact hT.1 rfl
   · have hF : Z51 a1 (b1.drop i) i = Z51 a1 (b1.drop (i + 1)) (i + 1) := by rw [hd]; first | exact (Z3 h1 rfl) | simp only [Z51, h0, h1, cond_true, cond_false]
     refine ⟨⟨(i + 1), by show (i + 1) ≤ b1.length; omega⟩, by show b1.length - (i + 1) < b1.length - i; omega, ?_, ?_⟩
     · show _ = Z15b a1 b1 b2 b3 b4 (i + 1)
       unfold Z15b
       simp only [hw]
     · show (Zd2 a1 b1 b2 b3 b4 (i + 1)).All Q
       unfold Zd2 at hT ⊢
       rw [hF] at hT
       exact hT
 · have hge : ¬ i < b1.length := by simpa using h0
   have hd : b1.drop i = [] := List.drop_eq_nil_of_le (by omega)
   have hF : Z51 a1 (b1.drop i) i = (false, default) := by rw [hd]; first | exact rfl | simp only [Z51, h0, cond_true, cond_false]
   unfold Zd2 at hT
   rw [hF] at hT
   exact hT.2 rfl
def Z14 (a1 : BA) (b1 : LZ) (b2 : LV) (b3 : LS) (b4 : LQ) : Int :=
 cond ((Z51 a1 b1 0).1)
  ((Z51 a1 b1 0).2)
  (-1 : Int)
def rD_zoneR (a1 : BA) (b1 : LZ) (b2 : LV) (b3 : LS) (b4 : LQ) : RT :=
 (.ask ((Z51 a1 b1 0).1)
   (.leaf .ret ⟨Z9 30 [(4, .int .i64 ((Z51 a1 b1 0).2))], (.cells 106 [.vec 1, .vec 2, .vec 3, .vec 4] :: oV b1 b2 b3 b4 [])⟩ [])
   (.leaf .ret ⟨Z9 30 [(4, .int .i64 (-1))], (.cells 106 [.vec 1, .vec 2, .vec 3, .vec 4] :: oV b1 b2 b3 b4 [])⟩ []))
theorem rD_zoneF_tr (a1 : BA) (b1 : LZ) (b2 : LV) (b3 : LS) (b4 : LQ) (hp0 : b1.length ≤ 1000) (hp1 : b2.length ≤ 1000) (hp2 : b3.length ≤ 1000) (hp3 : b4.length ≤ 1000) : Tr Try.prog 5 (Z3b Try.f93) (Z25 Try.f93 [.ptr 0 0, .str a1] (.cells 106 [.vec 1, .vec 2, .vec 3, .vec 4] :: oV b1 b2 b3 b4 [])) (Z46 Try.prog Try.f93 (.int .i64 (Z14 a1 b1 b2 b3 b4)) (.cells 106 [.vec 1, .vec 2, .vec 3, .vec 4] :: oV b1 b2 b3 b4 [])) := by
 refine Z2f (kok _ _ _ _ _ _) (E := E_rD_zone) (L := (Z5f [(0, Z15b a1 b1 b2 b3 b4 0, [], Zd2 a1 b1 b2 b3 b4 0)])) 60 9999 (Z13.one (g := Z47 Try.f93 0) (b := 0) (by kernel_rfl) (by kernel_rfl) (by kernel_rfl) (by kernel_rfl) (fun Q h => rD_zoneL_loop a1 b1 b2 b3 b4 hp0 hp1 hp2 hp3 (by omega) ⟨0, by first | exact Nat.zero_le _ | (show 0 ≤ b1.length; omega) | (show 0 ≤ b1.length; exact ⟨Nat.zero_le _, by assumption⟩) | (show 0 ≤ b1.length; simp)⟩ Q h)) (rD_zoneR a1 b1 b2 b3 b4) (by kernel_rfl) (by kernel_rfl) (by kernel_rfl) ?_
 unfold rD_zoneR
 refine ⟨fun h0 => ?_, fun h0 => ?_⟩
 · have hF : Z14 a1 b1 b2 b3 b4 = ((Z51 a1 b1 0).2) := by first | exact (Z11 h0 rfl) | simp only [Z14, h0, cond_true, cond_false]
   exact ⟨trivial, .inl (by (try rw [hF]); kernel_rfl), by (try rw [hF]); kernel_rfl⟩
 · have hF : Z14 a1 b1 b2 b3 b4 = (-1 : Int) := by first | exact (Z3 h0 rfl) | simp only [Z14, h0, cond_true, cond_false]
   exact ⟨trivial, .inl (by (try rw [hF]); kernel_rfl), by (try rw [hF]); kernel_rfl⟩
noncomputable def Z15a : Fact Try.prog := Z4f 93 Try.f93 (by kernel_rfl) rfl (by kernel_rfl) [.c (.ptr 0 0), .c (.str)] [.cells 106 [.vec 1, .vec 2, .vec 3, .vec 4], .vec false .zone, .vec false .vol, .vec false .snap, .vec false .done] true (fun t u => .int .i64 (Z14 t.2.1 u.2.1 u.2.2.1 u.2.2.2.1 u.2.2.2.2.1)) (fun t u => HPL.enc _ u) (fun t u => [u.2.1.length ≤ 1000, u.2.2.1.length ≤ 1000, u.2.2.2.1.length ≤ 1000, u.2.2.2.2.1.length ≤ 1000])
 (fun _ _ _ => rfl) (fun t u => by kernel_rfl) (fun t u => by kernel_rfl) (fun t u h => rD_zoneF_tr t.2.1 u.2.1 u.2.2.1 u.2.2.2.1 u.2.2.2.2.1 (h _ mS) (h _ (mN mS)) (h _ (mN (mN mS))) (h _ (mN (mN (mN mS)))))
end Go.Proofs.Ytpffbkbadnhmmaa
