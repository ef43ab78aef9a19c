/- The document's driver: places. -/
import Derived.Test.YtpffbkbadnhmmaaDName
import Derived.Test.YtpffbkbadnhmmaaEE
set_option linter.unusedVariables false
set_option linter.unusedSimpArgs false
set_option maxRecDepth 100000
namespace Go.Proofs.Ytpffbkbadnhmmaa
open Go Go.Eng
noncomputable def E_r10_ofSnap : Env := envOf (P := Try.prog) [] [] [] ckf
def Z3e (a0 : Int) : Bool :=
 cond (a0 == (6 : Int)) true (a0 == (7 : Int))
def r10_ofSnapR (a0 : Int) : RT :=
 (.leaf .ret ⟨slots 9 [(2, .bool (cond (a0 == (6 : Int)) true (a0 == (7 : Int))))], []⟩ [])
theorem r10_ofSnapF_tr (a0 : Int)  : Tr Try.prog 0 (bodyOf Try.f107) (fnBegins Try.f107 [.int .u8 a0] []) (fnEnds Try.prog Try.f107 (.bool (Z3e a0)) []) := by
 refine Tr_tree (kok _ _ _ _ _ _) (E := E_r10_ofSnap) (L := noLoops) 60 9999 Z11.none (r10_ofSnapR a0) (by kernel_rfl) (by kernel_rfl) (by kernel_rfl) ?_
 unfold r10_ofSnapR
 exact ⟨trivial, .inl (by kernel_rfl), by kernel_rfl⟩
noncomputable def r10_ofSnap_fact : Fact Try.prog := factOf 107 Try.f107 (by kernel_rfl) rfl (by kernel_rfl) [.c (.int .u8)] [] true (fun t u => .bool (Z3e t.1)) (fun t u => []) (fun t u => [])
 (fun _ _ _ => rfl) (fun t u => by kernel_rfl) (fun t u => by kernel_rfl) (fun t u h => r10_ofSnapF_tr t.1 )
noncomputable def E_rD_last : Env := envOf (P := Try.prog) [r10_ofSnap_fact] [] [] ckf true
def Z4a (a1 : Int) (a2 : BA) : LQ → Nat → Bool × Int
 | [], i => (false, default)
 | o :: r, i => cond (cond (decide ((o.c.target) = a2)) ((Z3e (o.c.verb)) == (Z3e a1)) false)
  (true, (i : Int))
  (Z4a a1 a2 r (i + 1))
def Zfd (a1 : Int) (a2 : BA) (b1 : LZ) (b2 : LV) (b3 : LS) (b4 : LQ) (i : Nat) : St :=
 ⟨slots 48 [(0, .ptr 0 0), (1, .int .u8 a1), (2, .str a2), (7, .int .i64 (i : Int))], (.cells 106 [.vec 1, .vec 2, .vec 3, .vec 4] :: oV b1 b2 b3 b4 [])⟩
def rD_lastLR (a1 : Int) (a2 : BA) (b1 : LZ) (b2 : LV) (b3 : LS) (b4 : LQ) (i : Nat) : RT :=
 (.ask (decide ((i : Int) < (b4.length : Int)))
   (.need [0 ≤ (i : Int) ∧ (i : Int) < (b4.length : Int)]
     (.need [((decide (((b4.getD i default).c.target) = a2)) = true) → (0 ≤ (i : Int) ∧ (i : Int) < (b4.length : Int))]
       (.ask (cond (decide (((b4.getD i default).c.target) = a2)) ((Z3e ((b4.getD i default).c.verb)) == (Z3e a1)) false)
         (.leaf .ret ⟨slots 48 [(6, .int .i64 (i : Int))], (.cells 106 [.vec 1, .vec 2, .vec 3, .vec 4] :: oV b1 b2 b3 b4 [])⟩ [])
         (.leaf .normal ⟨slots 48 [(0, .ptr 0 0), (1, .int .u8 a1), (2, .str a2), (7, .int .i64 (IntKind.i64.wrap ((i : Int) + (1 : Int))))], (.cells 106 [.vec 1, .vec 2, .vec 3, .vec 4] :: oV b1 b2 b3 b4 [])⟩ []))))
   (.leaf (.exit 0) ⟨slots 48 [], (.cells 106 [.vec 1, .vec 2, .vec 3, .vec 4] :: oV b1 b2 b3 b4 [])⟩ []))
def Za0 (a1 : Int) (a2 : BA) (b1 : LZ) (b2 : LV) (b3 : LS) (b4 : LQ) (i : Nat) : Tree :=
 .ask ((Z4a a1 a2 (b4.drop i) i).1) (.leaf .ret ⟨slots 48 [(6, .int .i64 ((Z4a a1 a2 (b4.drop i) i).2))], (.cells 106 [.vec 1, .vec 2, .vec 3, .vec 4] :: oV b1 b2 b3 b4 [])⟩) (.leaf (.exit 0) ⟨slots 48 [], (.cells 106 [.vec 1, .vec 2, .vec 3, .vec 4] :: oV b1 b2 b3 b4 [])⟩)
theorem rD_lastL_loop (a1 : Int) (a2 : BA) (b1 : LZ) (b2 : LV) (b3 : LS) (b4 : LQ) (hp0 : b1.length ≤ 1000) (hp1 : b2.length ≤ 1000) (hp2 : b3.length ≤ 1000) (hp3 : b4.length ≤ 1000) (hlen : b4.length < 4611686018427387904) (z : { z : Nat // z ≤ b4.length }) (Q : Exit → St → Prop) (h : (Za0 a1 a2 b1 b2 b3 b4 z.1).All Q) : Tr Try.prog 5 (.loop (loopAt Try.f94 0)) (Zfd a1 a2 b1 b2 b3 b4 z.1) Q := by
 refine Tr_loopT (kok _ _ _ _ _ _) (E := E_rD_last) (ι := { z : Nat // z ≤ b4.length }) 60 0 (fun _ => noLoops) (fun z => Zfd a1 a2 b1 b2 b3 b4 z.1) (fun z => Za0 a1 a2 b1 b2 b3 b4 z.1) (fun z => rD_lastLR a1 a2 b1 b2 b3 b4 z.1) (fun z => b4.length - z.1) (fun _ => Z11.none) (fun z => by obtain ⟨i, hi⟩ := z; kernel_rfl) (fun z => by obtain ⟨i, hi⟩ := z; kernel_rfl) (fun z => by obtain ⟨i, hi⟩ := z; kernel_rfl) ?_ z Q h
 rintro ⟨i, hi⟩ Q hT
 replace hT : (Za0 a1 a2 b1 b2 b3 b4 i).All Q := hT
 replace hi : i ≤ b4.length := hi
 show (rD_lastLR a1 a2 b1 b2 b3 b4 i).All _
 unfold rD_lastLR
 refine ⟨fun h0 => ?_, fun h0 => ?_⟩
 · have hlt : i < b4.length := by simpa using h0
   have hd := drop_getD hlt
   have hw := wrap_succ (i := i) (by omega)
   refine ⟨Z5 (by (try refine fun (_ : _ = _) => ?_); (try refine fun (_ : _ ∧ _) => ?_); first | omega | (constructor <;> omega)) (Z9), ?_⟩
   refine ⟨Z5 (by (try refine fun (_ : _ = _) => ?_); (try refine fun (_ : _ ∧ _) => ?_); first | omega | (constructor <;> omega)) (Z9), ?_⟩
   refine ⟨fun h1 => ?_, fun h1 => ?_⟩
   · have hF : Z4a a1 a2 (b4.drop i) i = (true, (i : Int)) := by rw [hd]; first | exact (Z14 h1 rfl) | simp only [Z4a, h0, h1, cond_true, cond_false]
     unfold Za0 at hT
     rw [hF] at hT
     exact hT.1 rfl
   · have hF : Z4a a1 a2 (b4.drop i) i = Z4a a1 a2 (b4.drop (i + 1)) (i + 1) := by rw [hd]; first | exact (Z7 h1 rfl) | simp only [Z4a, h0, h1, cond_true, cond_false]
     refine ⟨⟨(i + 1), by show (i + 1) ≤ b4.length; omega⟩, by show b4.length - (i + 1) < b4.length - i; omega, ?_, ?_⟩
     · show _ = Zfd a1 a2 b1 b2 b3 b4 (i + 1)
       unfold Zfd
       simp only [hw]
     · show (Za0 a1 a2 b1 b2 b3 b4 (i + 1)).All Q
       unfold Za0 at hT ⊢
       rw [hF] at hT
       exact hT
 · have hge : ¬ i < b4.length := by simpa using h0
   have hd : b4.drop i = [] := List.drop_eq_nil_of_le (by omega)
   have hF : Z4a a1 a2 (b4.drop i) i = (false, default) := by rw [hd]; first | exact rfl | simp only [Z4a, h0, cond_true, cond_false]
   unfold Za0 at hT
   rw [hF] at hT
   exact hT.2 rfl
def Z1d (a1 : Int) (a2 : BA) (b1 : LZ) (b2 : LV) (b3 : LS) (b4 : LQ) : Int :=
 cond ((Z4a a1 a2 b4 0).1)
  ((Z4a a1 a2 b4 0).2)
  (-1 : Int)
def rD_lastR (a1 : Int) (a2 : BA) (b1 : LZ) (b2 : LV) (b3 : LS) (b4 : LQ) : RT :=
 (.ask ((Z4a a1 a2 b4 0).1)
   (.leaf .ret ⟨slots 48 [(6, .int .i64 ((Z4a a1 a2 b4 0).2))], (.cells 106 [.vec 1, .vec 2, .vec 3, .vec 4] :: oV b1 b2 b3 b4 [])⟩ [])
   (.leaf .ret ⟨slots 48 [(6, .int .i64 (-1))], (.cells 106 [.vec 1, .vec 2, .vec 3, .vec 4] :: oV b1 b2 b3 b4 [])⟩ []))
theorem rD_lastF_tr (a1 : Int) (a2 : BA) (b1 : LZ) (b2 : LV) (b3 : LS) (b4 : LQ) (hp0 : b1.length ≤ 1000) (hp1 : b2.length ≤ 1000) (hp2 : b3.length ≤ 1000) (hp3 : b4.length ≤ 1000) : Tr Try.prog 5 (bodyOf Try.f94) (fnBegins Try.f94 [.ptr 0 0, .int .u8 a1, .str a2] (.cells 106 [.vec 1, .vec 2, .vec 3, .vec 4] :: oV b1 b2 b3 b4 [])) (fnEnds Try.prog Try.f94 (.int .i64 (Z1d a1 a2 b1 b2 b3 b4)) (.cells 106 [.vec 1, .vec 2, .vec 3, .vec 4] :: oV b1 b2 b3 b4 [])) := by
 refine Tr_tree (kok _ _ _ _ _ _) (E := E_rD_last) (L := (loopsOf [(0, Zfd a1 a2 b1 b2 b3 b4 0, [], Za0 a1 a2 b1 b2 b3 b4 0)])) 60 9999 (Z11.one (g := loopAt Try.f94 0) (b := 0) (by kernel_rfl) (by kernel_rfl) (by kernel_rfl) (by kernel_rfl) (fun Q h => rD_lastL_loop a1 a2 b1 b2 b3 b4 hp0 hp1 hp2 hp3 (by omega) ⟨0, by first | exact Nat.zero_le _ | (show 0 ≤ b4.length; omega) | (show 0 ≤ b4.length; exact ⟨Nat.zero_le _, by assumption⟩) | (show 0 ≤ b4.length; simp)⟩ Q h)) (rD_lastR a1 a2 b1 b2 b3 b4) (by kernel_rfl) (by kernel_rfl) (by kernel_rfl) ?_
 unfold rD_lastR
 refine ⟨fun h0 => ?_, fun h0 => ?_⟩
 · have hF : Z1d a1 a2 b1 b2 b3 b4 = ((Z4a a1 a2 b4 0).2) := by first | exact (Z14 h0 rfl) | simp only [Z1d, h0, cond_true, cond_false]
   exact ⟨trivial, .inl (by (try rw [hF]); kernel_rfl), by (try rw [hF]); kernel_rfl⟩
 · have hF : Z1d a1 a2 b1 b2 b3 b4 = (-1 : Int) := by first | exact (Z7 h0 rfl) | simp only [Z1d, h0, cond_true, cond_false]
   exact ⟨trivial, .inl (by (try rw [hF]); kernel_rfl), by (try rw [hF]); kernel_rfl⟩
noncomputable def rD_last_fact : Fact Try.prog := factOf 94 Try.f94 (by kernel_rfl) rfl (by kernel_rfl) [.c (.ptr 0 0), .c (.int .u8), .c (.str)] [.cells 106 [.vec 1, .vec 2, .vec 3, .vec 4], .vec false .zone, .vec false .vol, .vec false .snap, .vec false .done] true (fun t u => .int .i64 (Z1d t.2.1 t.2.2.1 u.2.1 u.2.2.1 u.2.2.2.1 u.2.2.2.2.1)) (fun t u => HPL.enc _ u) (fun t u => [u.2.1.length ≤ 1000, u.2.2.1.length ≤ 1000, u.2.2.2.1.length ≤ 1000, u.2.2.2.2.1.length ≤ 1000])
 (fun _ _ _ => rfl) (fun t u => by kernel_rfl) (fun t u => by kernel_rfl) (fun t u h => rD_lastF_tr t.2.1 t.2.2.1 u.2.1 u.2.2.1 u.2.2.2.1 u.2.2.2.2.1 (h _ mS) (h _ (mN mS)) (h _ (mN (mN mS))) (h _ (mN (mN (mN mS)))))
noncomputable def E_rD_vol : Env := envOf (P := Try.prog) [] [] [] ckf true
def Z51 (a1 : BA) : LV → Nat → Bool × Int
 | [], i => (false, default)
 | o :: r, i => cond (decide ((o.name) = a1))
  (true, (i : Int))
  (Z51 a1 r (i + 1))
def Z131 (a1 : BA) (b1 : LZ) (b2 : LV) (b3 : LS) (b4 : LQ) (i : Nat) : St :=
 ⟨slots 30 [(0, .ptr 0 0), (1, .str a1), (5, .int .i64 (i : Int))], (.cells 106 [.vec 1, .vec 2, .vec 3, .vec 4] :: oV b1 b2 b3 b4 [])⟩
def rD_volLR (a1 : BA) (b1 : LZ) (b2 : LV) (b3 : LS) (b4 : LQ) (i : Nat) : RT :=
 (.ask (decide ((i : Int) < (b2.length : Int)))
   (.need [0 ≤ (i : Int) ∧ (i : Int) < (b2.length : Int)]
     (.ask (decide (((b2.getD i default).name) = a1))
       (.leaf .ret ⟨slots 30 [(4, .int .i64 (i : Int))], (.cells 106 [.vec 1, .vec 2, .vec 3, .vec 4] :: oV b1 b2 b3 b4 [])⟩ [])
       (.leaf .normal ⟨slots 30 [(0, .ptr 0 0), (1, .str a1), (5, .int .i64 (IntKind.i64.wrap ((i : Int) + (1 : Int))))], (.cells 106 [.vec 1, .vec 2, .vec 3, .vec 4] :: oV b1 b2 b3 b4 [])⟩ [])))
   (.leaf (.exit 0) ⟨slots 30 [], (.cells 106 [.vec 1, .vec 2, .vec 3, .vec 4] :: oV b1 b2 b3 b4 [])⟩ []))
def Zb6 (a1 : BA) (b1 : LZ) (b2 : LV) (b3 : LS) (b4 : LQ) (i : Nat) : Tree :=
 .ask ((Z51 a1 (b2.drop i) i).1) (.leaf .ret ⟨slots 30 [(4, .int .i64 ((Z51 a1 (b2.drop i) i).2))], (.cells 106 [.vec 1, .vec 2, .vec 3, .vec 4] :: oV b1 b2 b3 b4 [])⟩) (.leaf (.exit 0) ⟨slots 30 [], (.cells 106 [.vec 1, .vec 2, .vec 3, .vec 4] :: oV b1 b2 b3 b4 [])⟩)
theorem rD_volL_loop (a1 : BA) (b1 : LZ) (b2 : LV) (b3 : LS) (b4 : LQ) (hp0 : b1.length ≤ 1000) (hp1 : b2.length ≤ 1000) (hp2 : b3.length ≤ 1000) (hp3 : b4.length ≤ 1000) (hlen : b2.length < 4611686018427387904) (z : { z : Nat // z ≤ b2.length }) (Q : Exit → St → Prop) (h : (Zb6 a1 b1 b2 b3 b4 z.1).All Q) : Tr Try.prog 5 (.loop (loopAt Try.f96 0)) (Z131 a1 b1 b2 b3 b4 z.1) Q := by
 refine Tr_loopT (kok _ _ _ _ _ _) (E := E_rD_vol) (ι := { z : Nat // z ≤ b2.length }) 60 0 (fun _ => noLoops) (fun z => Z131 a1 b1 b2 b3 b4 z.1) (fun z => Zb6 a1 b1 b2 b3 b4 z.1) (fun z => rD_volLR a1 b1 b2 b3 b4 z.1) (fun z => b2.length - z.1) (fun _ => Z11.none) (fun z => by obtain ⟨i, hi⟩ := z; kernel_rfl) (fun z => by obtain ⟨i, hi⟩ := z; kernel_rfl) (fun z => by obtain ⟨i, hi⟩ := z; kernel_rfl) ?_ z Q h
 rintro ⟨i, hi⟩ Q hT
 replace hT : (Zb6 a1 b1 b2 b3 b4 i).All Q := hT
 replace hi : i ≤ b2.length := hi
 show (rD_volLR a1 b1 b2 b3 b4 i).All _
 unfold rD_volLR
 refine ⟨fun h0 => ?_, fun h0 => ?_⟩
 · have hlt : i < b2.length := by simpa using h0
   have hd := drop_getD hlt
   have hw := wrap_succ (i := i) (by omega)
   refine ⟨Z5 (by (try refine fun (_ : _ = _) => ?_); (try refine fun (_ : _ ∧ _) => ?_); first | omega | (constructor <;> omega)) (Z9), ?_⟩
   refine ⟨fun h1 => ?_, fun h1 => ?_⟩
   · have hF : Z51 a1 (b2.drop i) i = (true, (i : Int)) := by rw [hd]; first | exact (Z14 h1 rfl) | simp only [Z51, h0, h1, cond_true, cond_false]
     unfold Zb6 at hT
     rw [hF] at hT
     exact hT.1 rfl
   · have hF : Z51 a1 (b2.drop i) i = Z51 a1 (b2.drop (i + 1)) (i + 1) := by rw [hd]; first | exact (Z7 h1 rfl) | simp only [Z51, h0, h1, cond_true, cond_false]
     refine ⟨⟨(i + 1), by show (i + 1) ≤ b2.length; omega⟩, by show b2.length - (i + 1) < b2.length - i; omega, ?_, ?_⟩
     · show _ = Z131 a1 b1 b2 b3 b4 (i + 1)
       unfold Z131
       simp only [hw]
     · show (Zb6 a1 b1 b2 b3 b4 (i + 1)).All Q
       unfold Zb6 at hT ⊢
       rw [hF] at hT
       exact hT
 · have hge : ¬ i < b2.length := by simpa using h0
   have hd : b2.drop i = [] := List.drop_eq_nil_of_le (by omega)
   have hF : Z51 a1 (b2.drop i) i = (false, default) := by rw [hd]; first | exact rfl | simp only [Z51, h0, cond_true, cond_false]
   unfold Zb6 at hT
   rw [hF] at hT
   exact hT.2 rfl
def Z8 (a1 : BA) (b1 : LZ) (b2 : LV) (b3 : LS) (b4 : LQ) : Int :=
 cond ((Z51 a1 b2 0).1)
  ((Z51 a1 b2 0).2)
  (-1 : Int)
def rD_volR (a1 : BA) (b1 : LZ) (b2 : LV) (b3 : LS) (b4 : LQ) : RT :=
 (.ask ((Z51 a1 b2 0).1)
   (.leaf .ret ⟨slots 30 [(4, .int .i64 ((Z51 a1 b2 0).2))], (.cells 106 [.vec 1, .vec 2, .vec 3, .vec 4] :: oV b1 b2 b3 b4 [])⟩ [])
   (.leaf .ret ⟨slots 30 [(4, .int .i64 (-1))], (.cells 106 [.vec 1, .vec 2, .vec 3, .vec 4] :: oV b1 b2 b3 b4 [])⟩ []))
theorem rD_volF_tr (a1 : BA) (b1 : LZ) (b2 : LV) (b3 : LS) (b4 : LQ) (hp0 : b1.length ≤ 1000) (hp1 : b2.length ≤ 1000) (hp2 : b3.length ≤ 1000) (hp3 : b4.length ≤ 1000) : Tr Try.prog 5 (bodyOf Try.f96) (fnBegins Try.f96 [.ptr 0 0, .str a1] (.cells 106 [.vec 1, .vec 2, .vec 3, .vec 4] :: oV b1 b2 b3 b4 [])) (fnEnds Try.prog Try.f96 (.int .i64 (Z8 a1 b1 b2 b3 b4)) (.cells 106 [.vec 1, .vec 2, .vec 3, .vec 4] :: oV b1 b2 b3 b4 [])) := by
 refine Tr_tree (kok _ _ _ _ _ _) (E := E_rD_vol) (L := (loopsOf [(0, Z131 a1 b1 b2 b3 b4 0, [], Zb6 a1 b1 b2 b3 b4 0)])) 60 9999 (Z11.one (g := loopAt Try.f96 0) (b := 0) (by kernel_rfl) (by kernel_rfl) (by kernel_rfl) (by kernel_rfl) (fun Q h => rD_volL_loop a1 b1 b2 b3 b4 hp0 hp1 hp2 hp3 (by omega) ⟨0, by first | exact Nat.zero_le _ | (show 0 ≤ b2.length; omega) | (show 0 ≤ b2.length; exact ⟨Nat.zero_le _, by assumption⟩) | (show 0 ≤ b2.length; simp)⟩ Q h)) (rD_volR a1 b1 b2 b3 b4) (by kernel_rfl) (by kernel_rfl) (by kernel_rfl) ?_
 unfold rD_volR
 refine ⟨fun h0 => ?_, fun h0 => ?_⟩
 · have hF : Z8 a1 b1 b2 b3 b4 = ((Z51 a1 b2 0).2) := by first | exact (Z14 h0 rfl) | simp only [Z8, h0, cond_true, cond_false]
   exact ⟨trivial, .inl (by (try rw [hF]); kernel_rfl), by (try rw [hF]); kernel_rfl⟩
 · have hF : Z8 a1 b1 b2 b3 b4 = (-1 : Int) := by first | exact (Z7 h0 rfl) | simp only [Z8, h0, cond_true, cond_false]
   exact ⟨trivial, .inl (by (try rw [hF]); kernel_rfl), by (try rw [hF]); kernel_rfl⟩
noncomputable def Zd3 : Fact Try.prog := factOf 96 Try.f96 (by kernel_rfl) rfl (by kernel_rfl) [.c (.ptr 0 0), .c (.str)] [.cells 106 [.vec 1, .vec 2, .vec 3, .vec 4], .vec false .zone, .vec false .vol, .vec false .snap, .vec false .done] true (fun t u => .int .i64 (Z8 t.2.1 u.2.1 u.2.2.1 u.2.2.2.1 u.2.2.2.2.1)) (fun t u => HPL.enc _ u) (fun t u => [u.2.1.length ≤ 1000, u.2.2.1.length ≤ 1000, u.2.2.2.1.length ≤ 1000, u.2.2.2.2.1.length ≤ 1000])
 (fun _ _ _ => rfl) (fun t u => by kernel_rfl) (fun t u => by kernel_rfl) (fun t u h => rD_volF_tr t.2.1 u.2.1 u.2.2.1 u.2.2.2.1 u.2.2.2.2.1 (h _ mS) (h _ (mN mS)) (h _ (mN (mN mS))) (h _ (mN (mN (mN mS)))))
noncomputable def E_rD_snap : Env := envOf (P := Try.prog) [] [] [] ckf true
def Z49 (a1 : BA) : LS → Nat → Bool × Int
 | [], i => (false, default)
 | o :: r, i => cond (decide ((o.name) = a1))
  (true, (i : Int))
  (Z49 a1 r (i + 1))
def Zfc (a1 : BA) (b1 : LZ) (b2 : LV) (b3 : LS) (b4 : LQ) (i : Nat) : St :=
 ⟨slots 30 [(0, .ptr 0 0), (1, .str a1), (5, .int .i64 (i : Int))], (.cells 106 [.vec 1, .vec 2, .vec 3, .vec 4] :: oV b1 b2 b3 b4 [])⟩
def rD_snapLR (a1 : BA) (b1 : LZ) (b2 : LV) (b3 : LS) (b4 : LQ) (i : Nat) : RT :=
 (.ask (decide ((i : Int) < (b3.length : Int)))
   (.need [0 ≤ (i : Int) ∧ (i : Int) < (b3.length : Int)]
     (.ask (decide (((b3.getD i default).name) = a1))
       (.leaf .ret ⟨slots 30 [(4, .int .i64 (i : Int))], (.cells 106 [.vec 1, .vec 2, .vec 3, .vec 4] :: oV b1 b2 b3 b4 [])⟩ [])
       (.leaf .normal ⟨slots 30 [(0, .ptr 0 0), (1, .str a1), (5, .int .i64 (IntKind.i64.wrap ((i : Int) + (1 : Int))))], (.cells 106 [.vec 1, .vec 2, .vec 3, .vec 4] :: oV b1 b2 b3 b4 [])⟩ [])))
   (.leaf (.exit 0) ⟨slots 30 [], (.cells 106 [.vec 1, .vec 2, .vec 3, .vec 4] :: oV b1 b2 b3 b4 [])⟩ []))
def Z9f (a1 : BA) (b1 : LZ) (b2 : LV) (b3 : LS) (b4 : LQ) (i : Nat) : Tree :=
 .ask ((Z49 a1 (b3.drop i) i).1) (.leaf .ret ⟨slots 30 [(4, .int .i64 ((Z49 a1 (b3.drop i) i).2))], (.cells 106 [.vec 1, .vec 2, .vec 3, .vec 4] :: oV b1 b2 b3 b4 [])⟩) (.leaf (.exit 0) ⟨slots 30 [], (.cells 106 [.vec 1, .vec 2, .vec 3, .vec 4] :: oV b1 b2 b3 b4 [])⟩)
theorem rD_snapL_loop (a1 : BA) (b1 : LZ) (b2 : LV) (b3 : LS) (b4 : LQ) (hp0 : b1.length ≤ 1000) (hp1 : b2.length ≤ 1000) (hp2 : b3.length ≤ 1000) (hp3 : b4.length ≤ 1000) (hlen : b3.length < 4611686018427387904) (z : { z : Nat // z ≤ b3.length }) (Q : Exit → St → Prop) (h : (Z9f a1 b1 b2 b3 b4 z.1).All Q) : Tr Try.prog 5 (.loop (loopAt Try.f114 0)) (Zfc a1 b1 b2 b3 b4 z.1) Q := by
 refine Tr_loopT (kok _ _ _ _ _ _) (E := E_rD_snap) (ι := { z : Nat // z ≤ b3.length }) 60 0 (fun _ => noLoops) (fun z => Zfc a1 b1 b2 b3 b4 z.1) (fun z => Z9f a1 b1 b2 b3 b4 z.1) (fun z => rD_snapLR a1 b1 b2 b3 b4 z.1) (fun z => b3.length - z.1) (fun _ => Z11.none) (fun z => by obtain ⟨i, hi⟩ := z; kernel_rfl) (fun z => by obtain ⟨i, hi⟩ := z; kernel_rfl) (fun z => by obtain ⟨i, hi⟩ := z; kernel_rfl) ?_ z Q h
 rintro ⟨i, hi⟩ Q hT
 replace hT : (Z9f a1 b1 b2 b3 b4 i).All Q := hT
 replace hi : i ≤ b3.length := hi
 show (rD_snapLR a1 b1 b2 b3 b4 i).All _
 unfold rD_snapLR
 refine ⟨fun h0 => ?_, fun h0 => ?_⟩
 · have hlt : i < b3.length := by simpa using h0
   have hd := drop_getD hlt
   have hw := wrap_succ (i := i) (by omega)
   refine ⟨Z5 (by (try refine fun (_ : _ = _) => ?_); (try refine fun (_ : _ ∧ _) => ?_); first | omega | (constructor <;> omega)) (Z9), ?_⟩
   refine ⟨fun h1 => ?_, fun h1 => ?_⟩
   · have hF : Z49 a1 (b3.drop i) i = (true, (i : Int)) := by rw [hd]; first | exact (Z14 h1 rfl) | simp only [Z49, h0, h1, cond_true, cond_false]
     unfold Z9f at hT
     rw [hF] at hT
     exact hT.1 rfl
   · have hF : Z49 a1 (b3.drop i) i = Z49 a1 (b3.drop (i + 1)) (i + 1) := by rw [hd]; first | exact (Z7 h1 rfl) | simp only [Z49, h0, h1, cond_true, cond_false]
     refine ⟨⟨(i + 1), by show (i + 1) ≤ b3.length; omega⟩, by show b3.length - (i + 1) < b3.length - i; omega, ?_, ?_⟩
     · show _ = Zfc a1 b1 b2 b3 b4 (i + 1)
       unfold Zfc
       simp only [hw]
     · show (Z9f a1 b1 b2 b3 b4 (i + 1)).All Q
       unfold Z9f at hT ⊢
       rw [hF] at hT
       exact hT
 · have hge : ¬ i < b3.length := by simpa using h0
   have hd : b3.drop i = [] := List.drop_eq_nil_of_le (by omega)
   have hF : Z49 a1 (b3.drop i) i = (false, default) := by rw [hd]; first | exact rfl | simp only [Z49, h0, cond_true, cond_false]
   unfold Z9f at hT
   rw [hF] at hT
   exact hT.2 rfl
def Z24 (a1 : BA) (b1 : LZ) (b2 : LV) (b3 : LS) (b4 : LQ) : Int :=
 cond ((Z49 a1 b3 0).1)
  ((Z49 a1 b3 0).2)
  (-1 : Int)
def rD_snapR (a1 : BA) (b1 : LZ) (b2 : LV) (b3 : LS) (b4 : LQ) : RT :=
 (.ask ((Z49 a1 b3 0).1)
   (.leaf .ret ⟨slots 30 [(4, .int .i64 ((Z49 a1 b3 0).2))], (.cells 106 [.vec 1, .vec 2, .vec 3, .vec 4] :: oV b1 b2 b3 b4 [])⟩ [])
   (.leaf .ret ⟨slots 30 [(4, .int .i64 (-1))], (.cells 106 [.vec 1, .vec 2, .vec 3, .vec 4] :: oV b1 b2 b3 b4 [])⟩ []))
theorem rD_snapF_tr (a1 : BA) (b1 : LZ) (b2 : LV) (b3 : LS) (b4 : LQ) (hp0 : b1.length ≤ 1000) (hp1 : b2.length ≤ 1000) (hp2 : b3.length ≤ 1000) (hp3 : b4.length ≤ 1000) : Tr Try.prog 5 (bodyOf Try.f114) (fnBegins Try.f114 [.ptr 0 0, .str a1] (.cells 106 [.vec 1, .vec 2, .vec 3, .vec 4] :: oV b1 b2 b3 b4 [])) (fnEnds Try.prog Try.f114 (.int .i64 (Z24 a1 b1 b2 b3 b4)) (.cells 106 [.vec 1, .vec 2, .vec 3, .vec 4] :: oV b1 b2 b3 b4 [])) := by
 refine Tr_tree (kok _ _ _ _ _ _) (E := E_rD_snap) (L := (loopsOf [(0, Zfc a1 b1 b2 b3 b4 0, [], Z9f a1 b1 b2 b3 b4 0)])) 60 9999 (Z11.one (g := loopAt Try.f114 0) (b := 0) (by kernel_rfl) (by kernel_rfl) (by kernel_rfl) (by kernel_rfl) (fun Q h => rD_snapL_loop a1 b1 b2 b3 b4 hp0 hp1 hp2 hp3 (by omega) ⟨0, by first | exact Nat.zero_le _ | (show 0 ≤ b3.length; omega) | (show 0 ≤ b3.length; exact ⟨Nat.zero_le _, by assumption⟩) | (show 0 ≤ b3.length; simp)⟩ Q h)) (rD_snapR a1 b1 b2 b3 b4) (by kernel_rfl) (by kernel_rfl) (by kernel_rfl) ?_
 unfold rD_snapR
 refine ⟨fun h0 => ?_, fun h0 => ?_⟩
 · have hF : Z24 a1 b1 b2 b3 b4 = ((Z49 a1 b3 0).2) := by first | exact (Z14 h0 rfl) | simp only [Z24, h0, cond_true, cond_false]
   exact ⟨trivial, .inl (by (try rw [hF]); kernel_rfl), by (try rw [hF]); kernel_rfl⟩
 · have hF : Z24 a1 b1 b2 b3 b4 = (-1 : Int) := by first | exact (Z7 h0 rfl) | simp only [Z24, h0, cond_true, cond_false]
   exact ⟨trivial, .inl (by (try rw [hF]); kernel_rfl), by (try rw [hF]); kernel_rfl⟩
noncomputable def Zfb : Fact Try.prog := factOf 114 Try.f114 (by kernel_rfl) rfl (by kernel_rfl) [.c (.ptr 0 0), .c (.str)] [.cells 106 [.vec 1, .vec 2, .vec 3, .vec 4], .vec false .zone, .vec false .vol, .vec false .snap, .vec false .done] true (fun t u => .int .i64 (Z24 t.2.1 u.2.1 u.2.2.1 u.2.2.2.1 u.2.2.2.2.1)) (fun t u => HPL.enc _ u) (fun t u => [u.2.1.length ≤ 1000, u.2.2.1.length ≤ 1000, u.2.2.2.1.length ≤ 1000, u.2.2.2.2.1.length ≤ 1000])
 (fun _ _ _ => rfl) (fun t u => by kernel_rfl) (fun t u => by kernel_rfl) (fun t u h => rD_snapF_tr t.2.1 u.2.1 u.2.2.1 u.2.2.2.1 u.2.2.2.2.1 (h _ mS) (h _ (mN mS)) (h _ (mN (mN mS))) (h _ (mN (mN (mN mS)))))
noncomputable def E_rD_zone : Env := envOf (P := Try.prog) [] [] [] ckf true
def Z42 (a1 : BA) : LZ → Nat → Bool × Int
 | [], i => (false, default)
 | o :: r, i => cond (decide ((o.name) = a1))
  (true, (i : Int))
  (Z42 a1 r (i + 1))
def Zfa (a1 : BA) (b1 : LZ) (b2 : LV) (b3 : LS) (b4 : LQ) (i : Nat) : St :=
 ⟨slots 30 [(0, .ptr 0 0), (1, .str a1), (5, .int .i64 (i : Int))], (.cells 106 [.vec 1, .vec 2, .vec 3, .vec 4] :: oV b1 b2 b3 b4 [])⟩
def rD_zoneLR (a1 : BA) (b1 : LZ) (b2 : LV) (b3 : LS) (b4 : LQ) (i : Nat) : RT :=
 (.ask (decide ((i : Int) < (b1.length : Int)))
   (.need [0 ≤ (i : Int) ∧ (i : Int) < (b1.length : Int)]
     (.ask (decide (((b1.getD i default).name) = a1))
       (.leaf .ret ⟨slots 30 [(4, .int .i64 (i : Int))], (.cells 106 [.vec 1, .vec 2, .vec 3, .vec 4] :: oV b1 b2 b3 b4 [])⟩ [])
       (.leaf .normal ⟨slots 30 [(0, .ptr 0 0), (1, .str a1), (5, .int .i64 (IntKind.i64.wrap ((i : Int) + (1 : Int))))], (.cells 106 [.vec 1, .vec 2, .vec 3, .vec 4] :: oV b1 b2 b3 b4 [])⟩ [])))
   (.leaf (.exit 0) ⟨slots 30 [], (.cells 106 [.vec 1, .vec 2, .vec 3, .vec 4] :: oV b1 b2 b3 b4 [])⟩ []))
def Z9e (a1 : BA) (b1 : LZ) (b2 : LV) (b3 : LS) (b4 : LQ) (i : Nat) : Tree :=
 .ask ((Z42 a1 (b1.drop i) i).1) (.leaf .ret ⟨slots 30 [(4, .int .i64 ((Z42 a1 (b1.drop i) i).2))], (.cells 106 [.vec 1, .vec 2, .vec 3, .vec 4] :: oV b1 b2 b3 b4 [])⟩) (.leaf (.exit 0) ⟨slots 30 [], (.cells 106 [.vec 1, .vec 2, .vec 3, .vec 4] :: oV b1 b2 b3 b4 [])⟩)
theorem rD_zoneL_loop (a1 : BA) (b1 : LZ) (b2 : LV) (b3 : LS) (b4 : LQ) (hp0 : b1.length ≤ 1000) (hp1 : b2.length ≤ 1000) (hp2 : b3.length ≤ 1000) (hp3 : b4.length ≤ 1000) (hlen : b1.length < 4611686018427387904) (z : { z : Nat // z ≤ b1.length }) (Q : Exit → St → Prop) (h : (Z9e a1 b1 b2 b3 b4 z.1).All Q) : Tr Try.prog 5 (.loop (loopAt Try.f93 0)) (Zfa a1 b1 b2 b3 b4 z.1) Q := by
 refine Tr_loopT (kok _ _ _ _ _ _) (E := E_rD_zone) (ι := { z : Nat // z ≤ b1.length }) 60 0 (fun _ => noLoops) (fun z => Zfa a1 b1 b2 b3 b4 z.1) (fun z => Z9e a1 b1 b2 b3 b4 z.1) (fun z => rD_zoneLR a1 b1 b2 b3 b4 z.1) (fun z => b1.length - z.1) (fun _ => Z11.none) (fun z => by obtain ⟨i, hi⟩ := z; kernel_rfl) (fun z => by obtain ⟨i, hi⟩ := z; kernel_rfl) (fun z => by obtain ⟨i, hi⟩ := z; kernel_rfl) ?_ z Q h
 rintro ⟨i, hi⟩ Q hT
 replace hT : (Z9e a1 b1 b2 b3 b4 i).All Q := hT
 replace hi : i ≤ b1.length := hi
 show (rD_zoneLR a1 b1 b2 b3 b4 i).All _
 unfold rD_zoneLR
 refine ⟨fun h0 => ?_, fun h0 => ?_⟩
 · have hlt : i < b1.length := by simpa using h0
   have hd := drop_getD hlt
   have hw := wrap_succ (i := i) (by omega)
   refine ⟨Z5 (by (try refine fun (_ : _ = _) => ?_); (try refine fun (_ : _ ∧ _) => ?_); first | omega | (constructor <;> omega)) (Z9), ?_⟩
   refine ⟨fun h1 => ?_, fun h1 => ?_⟩
   · have hF : Z42 a1 (b1.drop i) i = (true, (i : Int)) := by rw [hd]; first | exact (Z14 h1 rfl) | simp only [Z42, h0, h1, cond_true, cond_false]
     unfold Z9e at hT
     rw [hF] at hT
     exact hT.1 rfl
   · have hF : Z42 a1 (b1.drop i) i = Z42 a1 (b1.drop (i + 1)) (i + 1) := by rw [hd]; first | exact (Z7 h1 rfl) | simp only [Z42, h0, h1, cond_true, cond_false]
     refine ⟨⟨(i + 1), by show (i + 1) ≤ b1.length; omega⟩, by show b1.length - (i + 1) < b1.length - i; omega, ?_, ?_⟩
     · show _ = Zfa a1 b1 b2 b3 b4 (i + 1)
       unfold Zfa
       simp only [hw]
     · show (Z9e a1 b1 b2 b3 b4 (i + 1)).All Q
       unfold Z9e at hT ⊢
       rw [hF] at hT
       exact hT
 · have hge : ¬ i < b1.length := by simpa using h0
   have hd : b1.drop i = [] := List.drop_eq_nil_of_le (by omega)
   have hF : Z42 a1 (b1.drop i) i = (false, default) := by rw [hd]; first | exact rfl | simp only [Z42, h0, cond_true, cond_false]
   unfold Z9e at hT
   rw [hF] at hT
   exact hT.2 rfl
def Z17 (a1 : BA) (b1 : LZ) (b2 : LV) (b3 : LS) (b4 : LQ) : Int :=
 cond ((Z42 a1 b1 0).1)
  ((Z42 a1 b1 0).2)
  (-1 : Int)
def rD_zoneR (a1 : BA) (b1 : LZ) (b2 : LV) (b3 : LS) (b4 : LQ) : RT :=
 (.ask ((Z42 a1 b1 0).1)
   (.leaf .ret ⟨slots 30 [(4, .int .i64 ((Z42 a1 b1 0).2))], (.cells 106 [.vec 1, .vec 2, .vec 3, .vec 4] :: oV b1 b2 b3 b4 [])⟩ [])
   (.leaf .ret ⟨slots 30 [(4, .int .i64 (-1))], (.cells 106 [.vec 1, .vec 2, .vec 3, .vec 4] :: oV b1 b2 b3 b4 [])⟩ []))
theorem rD_zoneF_tr (a1 : BA) (b1 : LZ) (b2 : LV) (b3 : LS) (b4 : LQ) (hp0 : b1.length ≤ 1000) (hp1 : b2.length ≤ 1000) (hp2 : b3.length ≤ 1000) (hp3 : b4.length ≤ 1000) : Tr Try.prog 5 (bodyOf Try.f93) (fnBegins Try.f93 [.ptr 0 0, .str a1] (.cells 106 [.vec 1, .vec 2, .vec 3, .vec 4] :: oV b1 b2 b3 b4 [])) (fnEnds Try.prog Try.f93 (.int .i64 (Z17 a1 b1 b2 b3 b4)) (.cells 106 [.vec 1, .vec 2, .vec 3, .vec 4] :: oV b1 b2 b3 b4 [])) := by
 refine Tr_tree (kok _ _ _ _ _ _) (E := E_rD_zone) (L := (loopsOf [(0, Zfa a1 b1 b2 b3 b4 0, [], Z9e a1 b1 b2 b3 b4 0)])) 60 9999 (Z11.one (g := loopAt Try.f93 0) (b := 0) (by kernel_rfl) (by kernel_rfl) (by kernel_rfl) (by kernel_rfl) (fun Q h => rD_zoneL_loop a1 b1 b2 b3 b4 hp0 hp1 hp2 hp3 (by omega) ⟨0, by first | exact Nat.zero_le _ | (show 0 ≤ b1.length; omega) | (show 0 ≤ b1.length; exact ⟨Nat.zero_le _, by assumption⟩) | (show 0 ≤ b1.length; simp)⟩ Q h)) (rD_zoneR a1 b1 b2 b3 b4) (by kernel_rfl) (by kernel_rfl) (by kernel_rfl) ?_
 unfold rD_zoneR
 refine ⟨fun h0 => ?_, fun h0 => ?_⟩
 · have hF : Z17 a1 b1 b2 b3 b4 = ((Z42 a1 b1 0).2) := by first | exact (Z14 h0 rfl) | simp only [Z17, h0, cond_true, cond_false]
   exact ⟨trivial, .inl (by (try rw [hF]); kernel_rfl), by (try rw [hF]); kernel_rfl⟩
 · have hF : Z17 a1 b1 b2 b3 b4 = (-1 : Int) := by first | exact (Z7 h0 rfl) | simp only [Z17, h0, cond_true, cond_false]
   exact ⟨trivial, .inl (by (try rw [hF]); kernel_rfl), by (try rw [hF]); kernel_rfl⟩
noncomputable def Zb5 : Fact Try.prog := factOf 93 Try.f93 (by kernel_rfl) rfl (by kernel_rfl) [.c (.ptr 0 0), .c (.str)] [.cells 106 [.vec 1, .vec 2, .vec 3, .vec 4], .vec false .zone, .vec false .vol, .vec false .snap, .vec false .done] true (fun t u => .int .i64 (Z17 t.2.1 u.2.1 u.2.2.1 u.2.2.2.1 u.2.2.2.2.1)) (fun t u => HPL.enc _ u) (fun t u => [u.2.1.length ≤ 1000, u.2.2.1.length ≤ 1000, u.2.2.2.1.length ≤ 1000, u.2.2.2.2.1.length ≤ 1000])
 (fun _ _ _ => rfl) (fun t u => by kernel_rfl) (fun t u => by kernel_rfl) (fun t u h => rD_zoneF_tr t.2.1 u.2.1 u.2.2.1 u.2.2.2.1 u.2.2.2.2.1 (h _ mS) (h _ (mN mS)) (h _ (mN (mN mS))) (h _ (mN (mN (mN mS)))))
end Go.Proofs.Ytpffbkbadnhmmaa
