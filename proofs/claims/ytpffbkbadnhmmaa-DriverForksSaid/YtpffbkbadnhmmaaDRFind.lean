/- The document's driver: places. -/
import Derived.Test.YtpffbkbadnhmmaaDName
import Derived.Test.YtpffbkbadnhmmaaEE
set_option linter.unusedVariables false
set_option linter.unusedSimpArgs false
set_option maxRecDepth 100000
namespace Go.Proofs.Ytpffbkbadnhmmaa
open Go Go.Eng
noncomputable def E_r10_ofSnap : Env := envOf (P := Try.prog) [] [] [] ckf
def Z2f (a0 : Int) : Bool :=
 cond (a0 == (6 : Int)) true (a0 == (7 : Int))
def r10_ofSnapR (a0 : Int) : RT :=
 (.leaf .ret ⟨slots 9 [(2, .bool (cond (a0 == (6 : Int)) true (a0 == (7 : Int))))], []⟩ [])
theorem r10_ofSnapF_tr (a0 : Int)  : Tr Try.prog 0 (bodyOf Try.f107) (fnBegins Try.f107 [.int .u8 a0] []) (fnEnds Try.prog Try.f107 (.bool (Z2f a0)) []) := by
 refine Tr_tree (kok _ _ _ _ _ _) (E := E_r10_ofSnap) (L := noLoops) 60 9999 Z10.none (r10_ofSnapR a0) (by kernel_rfl) (by kernel_rfl) (by kernel_rfl) ?_
 unfold r10_ofSnapR
 exact ⟨trivial, .inl (by kernel_rfl), by kernel_rfl⟩
noncomputable def r10_ofSnap_fact : Fact Try.prog := factOf 107 Try.f107 (by kernel_rfl) rfl (by kernel_rfl) [.c (.int .u8)] [] true (fun t u => .bool (Z2f t.1)) (fun t u => []) (fun t u => [])
 (fun _ _ _ => rfl) (fun t u => by kernel_rfl) (fun t u => by kernel_rfl) (fun t u h => r10_ofSnapF_tr t.1 )
noncomputable def E_rD_last : Env := envOf (P := Try.prog) [r10_ofSnap_fact] [] [] ckf true
def Z3c (a1 : Int) (a2 : ByteArray) : List XDone → Nat → Bool × Int
 | [], i => (false, default)
 | o :: r, i => cond (cond (decide ((o.c.target) = a2)) ((Z2f (o.c.verb)) == (Z2f a1)) false)
  (true, (i : Int))
  (Z3c a1 a2 r (i + 1))
def rD_lastLS (a1 : Int) (a2 : ByteArray) (b1 : List XZone) (b2 : List XVol) (b3 : List XSnap) (b4 : List XDone) (i : Nat) : St :=
 ⟨slots 48 [(0, .ptr 0 0), (1, .int .u8 a1), (2, .str a2), (7, .int .i64 (i : Int))], (.cells 106 [.vec 1, .vec 2, .vec 3, .vec 4] :: oV b1 b2 b3 b4 [])⟩
def rD_lastLR (a1 : Int) (a2 : ByteArray) (b1 : List XZone) (b2 : List XVol) (b3 : List XSnap) (b4 : List XDone) (i : Nat) : RT :=
 (.ask (decide ((i : Int) < (b4.length : Int)))
   (.need [0 ≤ (i : Int) ∧ (i : Int) < (b4.length : Int)]
     (.need [((decide (((b4.getD i default).c.target) = a2)) = true) → (0 ≤ (i : Int) ∧ (i : Int) < (b4.length : Int))]
       (.ask (cond (decide (((b4.getD i default).c.target) = a2)) ((Z2f ((b4.getD i default).c.verb)) == (Z2f a1)) false)
         (.leaf .ret ⟨slots 48 [(6, .int .i64 (i : Int))], (.cells 106 [.vec 1, .vec 2, .vec 3, .vec 4] :: oV b1 b2 b3 b4 [])⟩ [])
         (.leaf .normal ⟨slots 48 [(0, .ptr 0 0), (1, .int .u8 a1), (2, .str a2), (7, .int .i64 (IntKind.i64.wrap ((i : Int) + (1 : Int))))], (.cells 106 [.vec 1, .vec 2, .vec 3, .vec 4] :: oV b1 b2 b3 b4 [])⟩ []))))
   (.leaf (.exit 0) ⟨slots 48 [], (.cells 106 [.vec 1, .vec 2, .vec 3, .vec 4] :: oV b1 b2 b3 b4 [])⟩ []))
def rD_lastLT (a1 : Int) (a2 : ByteArray) (b1 : List XZone) (b2 : List XVol) (b3 : List XSnap) (b4 : List XDone) (i : Nat) : Tree :=
 .ask ((Z3c a1 a2 (b4.drop i) i).1) (.leaf .ret ⟨slots 48 [(6, .int .i64 ((Z3c a1 a2 (b4.drop i) i).2))], (.cells 106 [.vec 1, .vec 2, .vec 3, .vec 4] :: oV b1 b2 b3 b4 [])⟩) (.leaf (.exit 0) ⟨slots 48 [], (.cells 106 [.vec 1, .vec 2, .vec 3, .vec 4] :: oV b1 b2 b3 b4 [])⟩)
theorem rD_lastL_loop (a1 : Int) (a2 : ByteArray) (b1 : List XZone) (b2 : List XVol) (b3 : List XSnap) (b4 : List XDone) (hp0 : b1.length ≤ 1000) (hp1 : b2.length ≤ 1000) (hp2 : b3.length ≤ 1000) (hp3 : b4.length ≤ 1000) (hlen : b4.length < 4611686018427387904) (z : { z : Nat // z ≤ b4.length }) (Q : Exit → St → Prop) (h : (rD_lastLT a1 a2 b1 b2 b3 b4 z.1).All Q) : Tr Try.prog 5 (.loop (loopAt Try.f94 0)) (rD_lastLS a1 a2 b1 b2 b3 b4 z.1) Q := by
 refine Tr_loopT (kok _ _ _ _ _ _) (E := E_rD_last) (ι := { z : Nat // z ≤ b4.length }) 60 0 (fun _ => noLoops) (fun z => rD_lastLS a1 a2 b1 b2 b3 b4 z.1) (fun z => rD_lastLT a1 a2 b1 b2 b3 b4 z.1) (fun z => rD_lastLR a1 a2 b1 b2 b3 b4 z.1) (fun z => b4.length - z.1) (fun _ => Z10.none) (fun z => by obtain ⟨i, hi⟩ := z; kernel_rfl) (fun z => by obtain ⟨i, hi⟩ := z; kernel_rfl) (fun z => by obtain ⟨i, hi⟩ := z; kernel_rfl) ?_ z Q h
 rintro ⟨i, hi⟩ Q hT
 replace hT : (rD_lastLT a1 a2 b1 b2 b3 b4 i).All Q := hT
 replace hi : i ≤ b4.length := hi
 show (rD_lastLR a1 a2 b1 b2 b3 b4 i).All _
 unfold rD_lastLR
 refine ⟨fun h0 => ?_, fun h0 => ?_⟩
 · have hlt : i < b4.length := by simpa using h0
   have hd := drop_getD hlt
   have hw := wrap_succ (i := i) (by omega)
   refine ⟨Z1 (by (try refine fun (_ : _ = _) => ?_); (try refine fun (_ : _ ∧ _) => ?_); first | omega | (constructor <;> omega)) (Z7), ?_⟩
   refine ⟨Z1 (by (try refine fun (_ : _ = _) => ?_); (try refine fun (_ : _ ∧ _) => ?_); first | omega | (constructor <;> omega)) (Z7), ?_⟩
   refine ⟨fun h1 => ?_, fun h1 => ?_⟩
   · have hF : Z3c a1 a2 (b4.drop i) i = (true, (i : Int)) := by rw [hd]; first | exact (Zd h1 rfl) | simp only [Z3c, h0, h1, cond_true, cond_false]
     unfold rD_lastLT at hT
     rw [hF] at hT
     exact hT.1 rfl
   · have hF : Z3c a1 a2 (b4.drop i) i = Z3c a1 a2 (b4.drop (i + 1)) (i + 1) := by rw [hd]; first | exact (Z4 h1 rfl) | simp only [Z3c, h0, h1, cond_true, cond_false]
     refine ⟨⟨(i + 1), by show (i + 1) ≤ b4.length; omega⟩, by show b4.length - (i + 1) < b4.length - i; omega, ?_, ?_⟩
     · show _ = rD_lastLS a1 a2 b1 b2 b3 b4 (i + 1)
       unfold rD_lastLS
       simp only [hw]
     · show (rD_lastLT a1 a2 b1 b2 b3 b4 (i + 1)).All Q
       unfold rD_lastLT at hT ⊢
       rw [hF] at hT
       exact hT
 · have hge : ¬ i < b4.length := by simpa using h0
   have hd : b4.drop i = [] := List.drop_eq_nil_of_le (by omega)
   have hF : Z3c a1 a2 (b4.drop i) i = (false, default) := by rw [hd]; first | exact rfl | simp only [Z3c, h0, cond_true, cond_false]
   unfold rD_lastLT at hT
   rw [hF] at hT
   exact hT.2 rfl
def Z14 (a1 : Int) (a2 : ByteArray) (b1 : List XZone) (b2 : List XVol) (b3 : List XSnap) (b4 : List XDone) : Int :=
 cond ((Z3c a1 a2 b4 0).1)
  ((Z3c a1 a2 b4 0).2)
  (-1 : Int)
def rD_lastR (a1 : Int) (a2 : ByteArray) (b1 : List XZone) (b2 : List XVol) (b3 : List XSnap) (b4 : List XDone) : RT :=
 (.ask ((Z3c a1 a2 b4 0).1)
   (.leaf .ret ⟨slots 48 [(6, .int .i64 ((Z3c a1 a2 b4 0).2))], (.cells 106 [.vec 1, .vec 2, .vec 3, .vec 4] :: oV b1 b2 b3 b4 [])⟩ [])
   (.leaf .ret ⟨slots 48 [(6, .int .i64 (-1))], (.cells 106 [.vec 1, .vec 2, .vec 3, .vec 4] :: oV b1 b2 b3 b4 [])⟩ []))
theorem rD_lastF_tr (a1 : Int) (a2 : ByteArray) (b1 : List XZone) (b2 : List XVol) (b3 : List XSnap) (b4 : List XDone) (hp0 : b1.length ≤ 1000) (hp1 : b2.length ≤ 1000) (hp2 : b3.length ≤ 1000) (hp3 : b4.length ≤ 1000) : Tr Try.prog 5 (bodyOf Try.f94) (fnBegins Try.f94 [.ptr 0 0, .int .u8 a1, .str a2] (.cells 106 [.vec 1, .vec 2, .vec 3, .vec 4] :: oV b1 b2 b3 b4 [])) (fnEnds Try.prog Try.f94 (.int .i64 (Z14 a1 a2 b1 b2 b3 b4)) (.cells 106 [.vec 1, .vec 2, .vec 3, .vec 4] :: oV b1 b2 b3 b4 [])) := by
 refine Tr_tree (kok _ _ _ _ _ _) (E := E_rD_last) (L := (loopsOf [(0, rD_lastLS a1 a2 b1 b2 b3 b4 0, [], rD_lastLT a1 a2 b1 b2 b3 b4 0)])) 60 9999 (Z10.one (g := loopAt Try.f94 0) (b := 0) (by kernel_rfl) (by kernel_rfl) (by kernel_rfl) (by kernel_rfl) (fun Q h => rD_lastL_loop a1 a2 b1 b2 b3 b4 hp0 hp1 hp2 hp3 (by omega) ⟨0, by first | exact Nat.zero_le _ | (show 0 ≤ b4.length; omega) | (show 0 ≤ b4.length; exact ⟨Nat.zero_le _, by assumption⟩) | (show 0 ≤ b4.length; simp)⟩ Q h)) (rD_lastR a1 a2 b1 b2 b3 b4) (by kernel_rfl) (by kernel_rfl) (by kernel_rfl) ?_
 unfold rD_lastR
 refine ⟨fun h0 => ?_, fun h0 => ?_⟩
 · have hF : Z14 a1 a2 b1 b2 b3 b4 = ((Z3c a1 a2 b4 0).2) := by first | exact (Zd h0 rfl) | simp only [Z14, h0, cond_true, cond_false]
   exact ⟨trivial, .inl (by (try rw [hF]); kernel_rfl), by (try rw [hF]); kernel_rfl⟩
 · have hF : Z14 a1 a2 b1 b2 b3 b4 = (-1 : Int) := by first | exact (Z4 h0 rfl) | simp only [Z14, h0, cond_true, cond_false]
   exact ⟨trivial, .inl (by (try rw [hF]); kernel_rfl), by (try rw [hF]); kernel_rfl⟩
noncomputable def rD_last_fact : Fact Try.prog := factOf 94 Try.f94 (by kernel_rfl) rfl (by kernel_rfl) [.c (.ptr 0 0), .c (.int .u8), .c (.str)] [.cells 106 [.vec 1, .vec 2, .vec 3, .vec 4], .vec false .zone, .vec false .vol, .vec false .snap, .vec false .done] true (fun t u => .int .i64 (Z14 t.2.1 t.2.2.1 u.2.1 u.2.2.1 u.2.2.2.1 u.2.2.2.2.1)) (fun t u => HPL.enc _ u) (fun t u => [u.2.1.length ≤ 1000, u.2.2.1.length ≤ 1000, u.2.2.2.1.length ≤ 1000, u.2.2.2.2.1.length ≤ 1000])
 (fun _ _ _ => rfl) (fun t u => by kernel_rfl) (fun t u => by kernel_rfl) (fun t u h => rD_lastF_tr t.2.1 t.2.2.1 u.2.1 u.2.2.1 u.2.2.2.1 u.2.2.2.2.1 (h _ List.mem_cons_self) (h _ (List.mem_cons_of_mem _ List.mem_cons_self)) (h _ (List.mem_cons_of_mem _ (List.mem_cons_of_mem _ List.mem_cons_self))) (h _ (List.mem_cons_of_mem _ (List.mem_cons_of_mem _ (List.mem_cons_of_mem _ List.mem_cons_self)))))
noncomputable def E_rD_vol : Env := envOf (P := Try.prog) [] [] [] ckf true
def Z44 (a1 : ByteArray) : List XVol → Nat → Bool × Int
 | [], i => (false, default)
 | o :: r, i => cond (decide ((o.name) = a1))
  (true, (i : Int))
  (Z44 a1 r (i + 1))
def rD_volLS (a1 : ByteArray) (b1 : List XZone) (b2 : List XVol) (b3 : List XSnap) (b4 : List XDone) (i : Nat) : St :=
 ⟨slots 30 [(0, .ptr 0 0), (1, .str a1), (5, .int .i64 (i : Int))], (.cells 106 [.vec 1, .vec 2, .vec 3, .vec 4] :: oV b1 b2 b3 b4 [])⟩
def rD_volLR (a1 : ByteArray) (b1 : List XZone) (b2 : List XVol) (b3 : List XSnap) (b4 : List XDone) (i : Nat) : RT :=
 (.ask (decide ((i : Int) < (b2.length : Int)))
   (.need [0 ≤ (i : Int) ∧ (i : Int) < (b2.length : Int)]
     (.ask (decide (((b2.getD i default).name) = a1))
       (.leaf .ret ⟨slots 30 [(4, .int .i64 (i : Int))], (.cells 106 [.vec 1, .vec 2, .vec 3, .vec 4] :: oV b1 b2 b3 b4 [])⟩ [])
       (.leaf .normal ⟨slots 30 [(0, .ptr 0 0), (1, .str a1), (5, .int .i64 (IntKind.i64.wrap ((i : Int) + (1 : Int))))], (.cells 106 [.vec 1, .vec 2, .vec 3, .vec 4] :: oV b1 b2 b3 b4 [])⟩ [])))
   (.leaf (.exit 0) ⟨slots 30 [], (.cells 106 [.vec 1, .vec 2, .vec 3, .vec 4] :: oV b1 b2 b3 b4 [])⟩ []))
def rD_volLT (a1 : ByteArray) (b1 : List XZone) (b2 : List XVol) (b3 : List XSnap) (b4 : List XDone) (i : Nat) : Tree :=
 .ask ((Z44 a1 (b2.drop i) i).1) (.leaf .ret ⟨slots 30 [(4, .int .i64 ((Z44 a1 (b2.drop i) i).2))], (.cells 106 [.vec 1, .vec 2, .vec 3, .vec 4] :: oV b1 b2 b3 b4 [])⟩) (.leaf (.exit 0) ⟨slots 30 [], (.cells 106 [.vec 1, .vec 2, .vec 3, .vec 4] :: oV b1 b2 b3 b4 [])⟩)
theorem rD_volL_loop (a1 : ByteArray) (b1 : List XZone) (b2 : List XVol) (b3 : List XSnap) (b4 : List XDone) (hp0 : b1.length ≤ 1000) (hp1 : b2.length ≤ 1000) (hp2 : b3.length ≤ 1000) (hp3 : b4.length ≤ 1000) (hlen : b2.length < 4611686018427387904) (z : { z : Nat // z ≤ b2.length }) (Q : Exit → St → Prop) (h : (rD_volLT a1 b1 b2 b3 b4 z.1).All Q) : Tr Try.prog 5 (.loop (loopAt Try.f96 0)) (rD_volLS a1 b1 b2 b3 b4 z.1) Q := by
 refine Tr_loopT (kok _ _ _ _ _ _) (E := E_rD_vol) (ι := { z : Nat // z ≤ b2.length }) 60 0 (fun _ => noLoops) (fun z => rD_volLS a1 b1 b2 b3 b4 z.1) (fun z => rD_volLT a1 b1 b2 b3 b4 z.1) (fun z => rD_volLR a1 b1 b2 b3 b4 z.1) (fun z => b2.length - z.1) (fun _ => Z10.none) (fun z => by obtain ⟨i, hi⟩ := z; kernel_rfl) (fun z => by obtain ⟨i, hi⟩ := z; kernel_rfl) (fun z => by obtain ⟨i, hi⟩ := z; kernel_rfl) ?_ z Q h
 rintro ⟨i, hi⟩ Q hT
 replace hT : (rD_volLT a1 b1 b2 b3 b4 i).All Q := hT
 replace hi : i ≤ b2.length := hi
 show (rD_volLR a1 b1 b2 b3 b4 i).All _
 unfold rD_volLR
 refine ⟨fun h0 => ?_, fun h0 => ?_⟩
 · have hlt : i < b2.length := by simpa using h0
   have hd := drop_getD hlt
   have hw := wrap_succ (i := i) (by omega)
   refine ⟨Z1 (by (try refine fun (_ : _ = _) => ?_); (try refine fun (_ : _ ∧ _) => ?_); first | omega | (constructor <;> omega)) (Z7), ?_⟩
   refine ⟨fun h1 => ?_, fun h1 => ?_⟩
   · have hF : Z44 a1 (b2.drop i) i = (true, (i : Int)) := by rw [hd]; first | exact (Zd h1 rfl) | simp only [Z44, h0, h1, cond_true, cond_false]
     unfold rD_volLT at hT
     rw [hF] at hT
     exact hT.1 rfl
   · have hF : Z44 a1 (b2.drop i) i = Z44 a1 (b2.drop (i + 1)) (i + 1) := by rw [hd]; first | exact (Z4 h1 rfl) | simp only [Z44, h0, h1, cond_true, cond_false]
     refine ⟨⟨(i + 1), by show (i + 1) ≤ b2.length; omega⟩, by show b2.length - (i + 1) < b2.length - i; omega, ?_, ?_⟩
     · show _ = rD_volLS a1 b1 b2 b3 b4 (i + 1)
       unfold rD_volLS
       simp only [hw]
     · show (rD_volLT a1 b1 b2 b3 b4 (i + 1)).All Q
       unfold rD_volLT at hT ⊢
       rw [hF] at hT
       exact hT
 · have hge : ¬ i < b2.length := by simpa using h0
   have hd : b2.drop i = [] := List.drop_eq_nil_of_le (by omega)
   have hF : Z44 a1 (b2.drop i) i = (false, default) := by rw [hd]; first | exact rfl | simp only [Z44, h0, cond_true, cond_false]
   unfold rD_volLT at hT
   rw [hF] at hT
   exact hT.2 rfl
def Z3 (a1 : ByteArray) (b1 : List XZone) (b2 : List XVol) (b3 : List XSnap) (b4 : List XDone) : Int :=
 cond ((Z44 a1 b2 0).1)
  ((Z44 a1 b2 0).2)
  (-1 : Int)
def rD_volR (a1 : ByteArray) (b1 : List XZone) (b2 : List XVol) (b3 : List XSnap) (b4 : List XDone) : RT :=
 (.ask ((Z44 a1 b2 0).1)
   (.leaf .ret ⟨slots 30 [(4, .int .i64 ((Z44 a1 b2 0).2))], (.cells 106 [.vec 1, .vec 2, .vec 3, .vec 4] :: oV b1 b2 b3 b4 [])⟩ [])
   (.leaf .ret ⟨slots 30 [(4, .int .i64 (-1))], (.cells 106 [.vec 1, .vec 2, .vec 3, .vec 4] :: oV b1 b2 b3 b4 [])⟩ []))
theorem rD_volF_tr (a1 : ByteArray) (b1 : List XZone) (b2 : List XVol) (b3 : List XSnap) (b4 : List XDone) (hp0 : b1.length ≤ 1000) (hp1 : b2.length ≤ 1000) (hp2 : b3.length ≤ 1000) (hp3 : b4.length ≤ 1000) : Tr Try.prog 5 (bodyOf Try.f96) (fnBegins Try.f96 [.ptr 0 0, .str a1] (.cells 106 [.vec 1, .vec 2, .vec 3, .vec 4] :: oV b1 b2 b3 b4 [])) (fnEnds Try.prog Try.f96 (.int .i64 (Z3 a1 b1 b2 b3 b4)) (.cells 106 [.vec 1, .vec 2, .vec 3, .vec 4] :: oV b1 b2 b3 b4 [])) := by
 refine Tr_tree (kok _ _ _ _ _ _) (E := E_rD_vol) (L := (loopsOf [(0, rD_volLS a1 b1 b2 b3 b4 0, [], rD_volLT a1 b1 b2 b3 b4 0)])) 60 9999 (Z10.one (g := loopAt Try.f96 0) (b := 0) (by kernel_rfl) (by kernel_rfl) (by kernel_rfl) (by kernel_rfl) (fun Q h => rD_volL_loop a1 b1 b2 b3 b4 hp0 hp1 hp2 hp3 (by omega) ⟨0, by first | exact Nat.zero_le _ | (show 0 ≤ b2.length; omega) | (show 0 ≤ b2.length; exact ⟨Nat.zero_le _, by assumption⟩) | (show 0 ≤ b2.length; simp)⟩ Q h)) (rD_volR a1 b1 b2 b3 b4) (by kernel_rfl) (by kernel_rfl) (by kernel_rfl) ?_
 unfold rD_volR
 refine ⟨fun h0 => ?_, fun h0 => ?_⟩
 · have hF : Z3 a1 b1 b2 b3 b4 = ((Z44 a1 b2 0).2) := by first | exact (Zd h0 rfl) | simp only [Z3, h0, cond_true, cond_false]
   exact ⟨trivial, .inl (by (try rw [hF]); kernel_rfl), by (try rw [hF]); kernel_rfl⟩
 · have hF : Z3 a1 b1 b2 b3 b4 = (-1 : Int) := by first | exact (Z4 h0 rfl) | simp only [Z3, h0, cond_true, cond_false]
   exact ⟨trivial, .inl (by (try rw [hF]); kernel_rfl), by (try rw [hF]); kernel_rfl⟩
noncomputable def rD_vol_fact : Fact Try.prog := factOf 96 Try.f96 (by kernel_rfl) rfl (by kernel_rfl) [.c (.ptr 0 0), .c (.str)] [.cells 106 [.vec 1, .vec 2, .vec 3, .vec 4], .vec false .zone, .vec false .vol, .vec false .snap, .vec false .done] true (fun t u => .int .i64 (Z3 t.2.1 u.2.1 u.2.2.1 u.2.2.2.1 u.2.2.2.2.1)) (fun t u => HPL.enc _ u) (fun t u => [u.2.1.length ≤ 1000, u.2.2.1.length ≤ 1000, u.2.2.2.1.length ≤ 1000, u.2.2.2.2.1.length ≤ 1000])
 (fun _ _ _ => rfl) (fun t u => by kernel_rfl) (fun t u => by kernel_rfl) (fun t u h => rD_volF_tr t.2.1 u.2.1 u.2.2.1 u.2.2.2.1 u.2.2.2.2.1 (h _ List.mem_cons_self) (h _ (List.mem_cons_of_mem _ List.mem_cons_self)) (h _ (List.mem_cons_of_mem _ (List.mem_cons_of_mem _ List.mem_cons_self))) (h _ (List.mem_cons_of_mem _ (List.mem_cons_of_mem _ (List.mem_cons_of_mem _ List.mem_cons_self)))))
noncomputable def E_rD_snap : Env := envOf (P := Try.prog) [] [] [] ckf true
def Z3b (a1 : ByteArray) : List XSnap → Nat → Bool × Int
 | [], i => (false, default)
 | o :: r, i => cond (decide ((o.name) = a1))
  (true, (i : Int))
  (Z3b a1 r (i + 1))
def rD_snapLS (a1 : ByteArray) (b1 : List XZone) (b2 : List XVol) (b3 : List XSnap) (b4 : List XDone) (i : Nat) : St :=
 ⟨slots 30 [(0, .ptr 0 0), (1, .str a1), (5, .int .i64 (i : Int))], (.cells 106 [.vec 1, .vec 2, .vec 3, .vec 4] :: oV b1 b2 b3 b4 [])⟩
def rD_snapLR (a1 : ByteArray) (b1 : List XZone) (b2 : List XVol) (b3 : List XSnap) (b4 : List XDone) (i : Nat) : RT :=
 (.ask (decide ((i : Int) < (b3.length : Int)))
   (.need [0 ≤ (i : Int) ∧ (i : Int) < (b3.length : Int)]
     (.ask (decide (((b3.getD i default).name) = a1))
       (.leaf .ret ⟨slots 30 [(4, .int .i64 (i : Int))], (.cells 106 [.vec 1, .vec 2, .vec 3, .vec 4] :: oV b1 b2 b3 b4 [])⟩ [])
       (.leaf .normal ⟨slots 30 [(0, .ptr 0 0), (1, .str a1), (5, .int .i64 (IntKind.i64.wrap ((i : Int) + (1 : Int))))], (.cells 106 [.vec 1, .vec 2, .vec 3, .vec 4] :: oV b1 b2 b3 b4 [])⟩ [])))
   (.leaf (.exit 0) ⟨slots 30 [], (.cells 106 [.vec 1, .vec 2, .vec 3, .vec 4] :: oV b1 b2 b3 b4 [])⟩ []))
def rD_snapLT (a1 : ByteArray) (b1 : List XZone) (b2 : List XVol) (b3 : List XSnap) (b4 : List XDone) (i : Nat) : Tree :=
 .ask ((Z3b a1 (b3.drop i) i).1) (.leaf .ret ⟨slots 30 [(4, .int .i64 ((Z3b a1 (b3.drop i) i).2))], (.cells 106 [.vec 1, .vec 2, .vec 3, .vec 4] :: oV b1 b2 b3 b4 [])⟩) (.leaf (.exit 0) ⟨slots 30 [], (.cells 106 [.vec 1, .vec 2, .vec 3, .vec 4] :: oV b1 b2 b3 b4 [])⟩)
theorem rD_snapL_loop (a1 : ByteArray) (b1 : List XZone) (b2 : List XVol) (b3 : List XSnap) (b4 : List XDone) (hp0 : b1.length ≤ 1000) (hp1 : b2.length ≤ 1000) (hp2 : b3.length ≤ 1000) (hp3 : b4.length ≤ 1000) (hlen : b3.length < 4611686018427387904) (z : { z : Nat // z ≤ b3.length }) (Q : Exit → St → Prop) (h : (rD_snapLT a1 b1 b2 b3 b4 z.1).All Q) : Tr Try.prog 5 (.loop (loopAt Try.f114 0)) (rD_snapLS a1 b1 b2 b3 b4 z.1) Q := by
 refine Tr_loopT (kok _ _ _ _ _ _) (E := E_rD_snap) (ι := { z : Nat // z ≤ b3.length }) 60 0 (fun _ => noLoops) (fun z => rD_snapLS a1 b1 b2 b3 b4 z.1) (fun z => rD_snapLT a1 b1 b2 b3 b4 z.1) (fun z => rD_snapLR a1 b1 b2 b3 b4 z.1) (fun z => b3.length - z.1) (fun _ => Z10.none) (fun z => by obtain ⟨i, hi⟩ := z; kernel_rfl) (fun z => by obtain ⟨i, hi⟩ := z; kernel_rfl) (fun z => by obtain ⟨i, hi⟩ := z; kernel_rfl) ?_ z Q h
 rintro ⟨i, hi⟩ Q hT
 replace hT : (rD_snapLT a1 b1 b2 b3 b4 i).All Q := hT
 replace hi : i ≤ b3.length := hi
 show (rD_snapLR a1 b1 b2 b3 b4 i).All _
 unfold rD_snapLR
 refine ⟨fun h0 => ?_, fun h0 => ?_⟩
 · have hlt : i < b3.length := by simpa using h0
   have hd := drop_getD hlt
   have hw := wrap_succ (i := i) (by omega)
   refine ⟨Z1 (by (try refine fun (_ : _ = _) => ?_); (try refine fun (_ : _ ∧ _) => ?_); first | omega | (constructor <;> omega)) (Z7), ?_⟩
   refine ⟨fun h1 => ?_, fun h1 => ?_⟩
   · have hF : Z3b a1 (b3.drop i) i = (true, (i : Int)) := by rw [hd]; first | exact (Zd h1 rfl) | simp only [Z3b, h0, h1, cond_true, cond_false]
     unfold rD_snapLT at hT
     rw [hF] at hT
     exact hT.1 rfl
   · have hF : Z3b a1 (b3.drop i) i = Z3b a1 (b3.drop (i + 1)) (i + 1) := by rw [hd]; first | exact (Z4 h1 rfl) | simp only [Z3b, h0, h1, cond_true, cond_false]
     refine ⟨⟨(i + 1), by show (i + 1) ≤ b3.length; omega⟩, by show b3.length - (i + 1) < b3.length - i; omega, ?_, ?_⟩
     · show _ = rD_snapLS a1 b1 b2 b3 b4 (i + 1)
       unfold rD_snapLS
       simp only [hw]
     · show (rD_snapLT a1 b1 b2 b3 b4 (i + 1)).All Q
       unfold rD_snapLT at hT ⊢
       rw [hF] at hT
       exact hT
 · have hge : ¬ i < b3.length := by simpa using h0
   have hd : b3.drop i = [] := List.drop_eq_nil_of_le (by omega)
   have hF : Z3b a1 (b3.drop i) i = (false, default) := by rw [hd]; first | exact rfl | simp only [Z3b, h0, cond_true, cond_false]
   unfold rD_snapLT at hT
   rw [hF] at hT
   exact hT.2 rfl
def Z1a (a1 : ByteArray) (b1 : List XZone) (b2 : List XVol) (b3 : List XSnap) (b4 : List XDone) : Int :=
 cond ((Z3b a1 b3 0).1)
  ((Z3b a1 b3 0).2)
  (-1 : Int)
def rD_snapR (a1 : ByteArray) (b1 : List XZone) (b2 : List XVol) (b3 : List XSnap) (b4 : List XDone) : RT :=
 (.ask ((Z3b a1 b3 0).1)
   (.leaf .ret ⟨slots 30 [(4, .int .i64 ((Z3b a1 b3 0).2))], (.cells 106 [.vec 1, .vec 2, .vec 3, .vec 4] :: oV b1 b2 b3 b4 [])⟩ [])
   (.leaf .ret ⟨slots 30 [(4, .int .i64 (-1))], (.cells 106 [.vec 1, .vec 2, .vec 3, .vec 4] :: oV b1 b2 b3 b4 [])⟩ []))
theorem rD_snapF_tr (a1 : ByteArray) (b1 : List XZone) (b2 : List XVol) (b3 : List XSnap) (b4 : List XDone) (hp0 : b1.length ≤ 1000) (hp1 : b2.length ≤ 1000) (hp2 : b3.length ≤ 1000) (hp3 : b4.length ≤ 1000) : Tr Try.prog 5 (bodyOf Try.f114) (fnBegins Try.f114 [.ptr 0 0, .str a1] (.cells 106 [.vec 1, .vec 2, .vec 3, .vec 4] :: oV b1 b2 b3 b4 [])) (fnEnds Try.prog Try.f114 (.int .i64 (Z1a a1 b1 b2 b3 b4)) (.cells 106 [.vec 1, .vec 2, .vec 3, .vec 4] :: oV b1 b2 b3 b4 [])) := by
 refine Tr_tree (kok _ _ _ _ _ _) (E := E_rD_snap) (L := (loopsOf [(0, rD_snapLS a1 b1 b2 b3 b4 0, [], rD_snapLT a1 b1 b2 b3 b4 0)])) 60 9999 (Z10.one (g := loopAt Try.f114 0) (b := 0) (by kernel_rfl) (by kernel_rfl) (by kernel_rfl) (by kernel_rfl) (fun Q h => rD_snapL_loop a1 b1 b2 b3 b4 hp0 hp1 hp2 hp3 (by omega) ⟨0, by first | exact Nat.zero_le _ | (show 0 ≤ b3.length; omega) | (show 0 ≤ b3.length; exact ⟨Nat.zero_le _, by assumption⟩) | (show 0 ≤ b3.length; simp)⟩ Q h)) (rD_snapR a1 b1 b2 b3 b4) (by kernel_rfl) (by kernel_rfl) (by kernel_rfl) ?_
 unfold rD_snapR
 refine ⟨fun h0 => ?_, fun h0 => ?_⟩
 · have hF : Z1a a1 b1 b2 b3 b4 = ((Z3b a1 b3 0).2) := by first | exact (Zd h0 rfl) | simp only [Z1a, h0, cond_true, cond_false]
   exact ⟨trivial, .inl (by (try rw [hF]); kernel_rfl), by (try rw [hF]); kernel_rfl⟩
 · have hF : Z1a a1 b1 b2 b3 b4 = (-1 : Int) := by first | exact (Z4 h0 rfl) | simp only [Z1a, h0, cond_true, cond_false]
   exact ⟨trivial, .inl (by (try rw [hF]); kernel_rfl), by (try rw [hF]); kernel_rfl⟩
noncomputable def rD_snap_fact : Fact Try.prog := factOf 114 Try.f114 (by kernel_rfl) rfl (by kernel_rfl) [.c (.ptr 0 0), .c (.str)] [.cells 106 [.vec 1, .vec 2, .vec 3, .vec 4], .vec false .zone, .vec false .vol, .vec false .snap, .vec false .done] true (fun t u => .int .i64 (Z1a t.2.1 u.2.1 u.2.2.1 u.2.2.2.1 u.2.2.2.2.1)) (fun t u => HPL.enc _ u) (fun t u => [u.2.1.length ≤ 1000, u.2.2.1.length ≤ 1000, u.2.2.2.1.length ≤ 1000, u.2.2.2.2.1.length ≤ 1000])
 (fun _ _ _ => rfl) (fun t u => by kernel_rfl) (fun t u => by kernel_rfl) (fun t u h => rD_snapF_tr t.2.1 u.2.1 u.2.2.1 u.2.2.2.1 u.2.2.2.2.1 (h _ List.mem_cons_self) (h _ (List.mem_cons_of_mem _ List.mem_cons_self)) (h _ (List.mem_cons_of_mem _ (List.mem_cons_of_mem _ List.mem_cons_self))) (h _ (List.mem_cons_of_mem _ (List.mem_cons_of_mem _ (List.mem_cons_of_mem _ List.mem_cons_self)))))
noncomputable def E_rD_zone : Env := envOf (P := Try.prog) [] [] [] ckf true
def Z35 (a1 : ByteArray) : List XZone → Nat → Bool × Int
 | [], i => (false, default)
 | o :: r, i => cond (decide ((o.name) = a1))
  (true, (i : Int))
  (Z35 a1 r (i + 1))
def rD_zoneLS (a1 : ByteArray) (b1 : List XZone) (b2 : List XVol) (b3 : List XSnap) (b4 : List XDone) (i : Nat) : St :=
 ⟨slots 30 [(0, .ptr 0 0), (1, .str a1), (5, .int .i64 (i : Int))], (.cells 106 [.vec 1, .vec 2, .vec 3, .vec 4] :: oV b1 b2 b3 b4 [])⟩
def rD_zoneLR (a1 : ByteArray) (b1 : List XZone) (b2 : List XVol) (b3 : List XSnap) (b4 : List XDone) (i : Nat) : RT :=
 (.ask (decide ((i : Int) < (b1.length : Int)))
   (.need [0 ≤ (i : Int) ∧ (i : Int) < (b1.length : Int)]
     (.ask (decide (((b1.getD i default).name) = a1))
       (.leaf .ret ⟨slots 30 [(4, .int .i64 (i : Int))], (.cells 106 [.vec 1, .vec 2, .vec 3, .vec 4] :: oV b1 b2 b3 b4 [])⟩ [])
       (.leaf .normal ⟨slots 30 [(0, .ptr 0 0), (1, .str a1), (5, .int .i64 (IntKind.i64.wrap ((i : Int) + (1 : Int))))], (.cells 106 [.vec 1, .vec 2, .vec 3, .vec 4] :: oV b1 b2 b3 b4 [])⟩ [])))
   (.leaf (.exit 0) ⟨slots 30 [], (.cells 106 [.vec 1, .vec 2, .vec 3, .vec 4] :: oV b1 b2 b3 b4 [])⟩ []))
def rD_zoneLT (a1 : ByteArray) (b1 : List XZone) (b2 : List XVol) (b3 : List XSnap) (b4 : List XDone) (i : Nat) : Tree :=
 .ask ((Z35 a1 (b1.drop i) i).1) (.leaf .ret ⟨slots 30 [(4, .int .i64 ((Z35 a1 (b1.drop i) i).2))], (.cells 106 [.vec 1, .vec 2, .vec 3, .vec 4] :: oV b1 b2 b3 b4 [])⟩) (.leaf (.exit 0) ⟨slots 30 [], (.cells 106 [.vec 1, .vec 2, .vec 3, .vec 4] :: oV b1 b2 b3 b4 [])⟩)
theorem rD_zoneL_loop (a1 : ByteArray) (b1 : List XZone) (b2 : List XVol) (b3 : List XSnap) (b4 : List XDone) (hp0 : b1.length ≤ 1000) (hp1 : b2.length ≤ 1000) (hp2 : b3.length ≤ 1000) (hp3 : b4.length ≤ 1000) (hlen : b1.length < 4611686018427387904) (z : { z : Nat // z ≤ b1.length }) (Q : Exit → St → Prop) (h : (rD_zoneLT a1 b1 b2 b3 b4 z.1).All Q) : Tr Try.prog 5 (.loop (loopAt Try.f93 0)) (rD_zoneLS a1 b1 b2 b3 b4 z.1) Q := by
 refine Tr_loopT (kok _ _ _ _ _ _) (E := E_rD_zone) (ι := { z : Nat // z ≤ b1.length }) 60 0 (fun _ => noLoops) (fun z => rD_zoneLS a1 b1 b2 b3 b4 z.1) (fun z => rD_zoneLT a1 b1 b2 b3 b4 z.1) (fun z => rD_zoneLR a1 b1 b2 b3 b4 z.1) (fun z => b1.length - z.1) (fun _ => Z10.none) (fun z => by obtain ⟨i, hi⟩ := z; kernel_rfl) (fun z => by obtain ⟨i, hi⟩ := z; kernel_rfl) (fun z => by obtain ⟨i, hi⟩ := z; kernel_rfl) ?_ z Q h
 rintro ⟨i, hi⟩ Q hT
 replace hT : (rD_zoneLT a1 b1 b2 b3 b4 i).All Q := hT
 replace hi : i ≤ b1.length := hi
 show (rD_zoneLR a1 b1 b2 b3 b4 i).All _
 unfold rD_zoneLR
 refine ⟨fun h0 => ?_, fun h0 => ?_⟩
 · have hlt : i < b1.length := by simpa using h0
   have hd := drop_getD hlt
   have hw := wrap_succ (i := i) (by omega)
   refine ⟨Z1 (by (try refine fun (_ : _ = _) => ?_); (try refine fun (_ : _ ∧ _) => ?_); first | omega | (constructor <;> omega)) (Z7), ?_⟩
   refine ⟨fun h1 => ?_, fun h1 => ?_⟩
   · have hF : Z35 a1 (b1.drop i) i = (true, (i : Int)) := by rw [hd]; first | exact (Zd h1 rfl) | simp only [Z35, h0, h1, cond_true, cond_false]
     unfold rD_zoneLT at hT
     rw [hF] at hT
     exact hT.1 rfl
   · have hF : Z35 a1 (b1.drop i) i = Z35 a1 (b1.drop (i + 1)) (i + 1) := by rw [hd]; first | exact (Z4 h1 rfl) | simp only [Z35, h0, h1, cond_true, cond_false]
     refine ⟨⟨(i + 1), by show (i + 1) ≤ b1.length; omega⟩, by show b1.length - (i + 1) < b1.length - i; omega, ?_, ?_⟩
     · show _ = rD_zoneLS a1 b1 b2 b3 b4 (i + 1)
       unfold rD_zoneLS
       simp only [hw]
     · show (rD_zoneLT a1 b1 b2 b3 b4 (i + 1)).All Q
       unfold rD_zoneLT at hT ⊢
       rw [hF] at hT
       exact hT
 · have hge : ¬ i < b1.length := by simpa using h0
   have hd : b1.drop i = [] := List.drop_eq_nil_of_le (by omega)
   have hF : Z35 a1 (b1.drop i) i = (false, default) := by rw [hd]; first | exact rfl | simp only [Z35, h0, cond_true, cond_false]
   unfold rD_zoneLT at hT
   rw [hF] at hT
   exact hT.2 rfl
def Zf (a1 : ByteArray) (b1 : List XZone) (b2 : List XVol) (b3 : List XSnap) (b4 : List XDone) : Int :=
 cond ((Z35 a1 b1 0).1)
  ((Z35 a1 b1 0).2)
  (-1 : Int)
def rD_zoneR (a1 : ByteArray) (b1 : List XZone) (b2 : List XVol) (b3 : List XSnap) (b4 : List XDone) : RT :=
 (.ask ((Z35 a1 b1 0).1)
   (.leaf .ret ⟨slots 30 [(4, .int .i64 ((Z35 a1 b1 0).2))], (.cells 106 [.vec 1, .vec 2, .vec 3, .vec 4] :: oV b1 b2 b3 b4 [])⟩ [])
   (.leaf .ret ⟨slots 30 [(4, .int .i64 (-1))], (.cells 106 [.vec 1, .vec 2, .vec 3, .vec 4] :: oV b1 b2 b3 b4 [])⟩ []))
theorem rD_zoneF_tr (a1 : ByteArray) (b1 : List XZone) (b2 : List XVol) (b3 : List XSnap) (b4 : List XDone) (hp0 : b1.length ≤ 1000) (hp1 : b2.length ≤ 1000) (hp2 : b3.length ≤ 1000) (hp3 : b4.length ≤ 1000) : Tr Try.prog 5 (bodyOf Try.f93) (fnBegins Try.f93 [.ptr 0 0, .str a1] (.cells 106 [.vec 1, .vec 2, .vec 3, .vec 4] :: oV b1 b2 b3 b4 [])) (fnEnds Try.prog Try.f93 (.int .i64 (Zf a1 b1 b2 b3 b4)) (.cells 106 [.vec 1, .vec 2, .vec 3, .vec 4] :: oV b1 b2 b3 b4 [])) := by
 refine Tr_tree (kok _ _ _ _ _ _) (E := E_rD_zone) (L := (loopsOf [(0, rD_zoneLS a1 b1 b2 b3 b4 0, [], rD_zoneLT a1 b1 b2 b3 b4 0)])) 60 9999 (Z10.one (g := loopAt Try.f93 0) (b := 0) (by kernel_rfl) (by kernel_rfl) (by kernel_rfl) (by kernel_rfl) (fun Q h => rD_zoneL_loop a1 b1 b2 b3 b4 hp0 hp1 hp2 hp3 (by omega) ⟨0, by first | exact Nat.zero_le _ | (show 0 ≤ b1.length; omega) | (show 0 ≤ b1.length; exact ⟨Nat.zero_le _, by assumption⟩) | (show 0 ≤ b1.length; simp)⟩ Q h)) (rD_zoneR a1 b1 b2 b3 b4) (by kernel_rfl) (by kernel_rfl) (by kernel_rfl) ?_
 unfold rD_zoneR
 refine ⟨fun h0 => ?_, fun h0 => ?_⟩
 · have hF : Zf a1 b1 b2 b3 b4 = ((Z35 a1 b1 0).2) := by first | exact (Zd h0 rfl) | simp only [Zf, h0, cond_true, cond_false]
   exact ⟨trivial, .inl (by (try rw [hF]); kernel_rfl), by (try rw [hF]); kernel_rfl⟩
 · have hF : Zf a1 b1 b2 b3 b4 = (-1 : Int) := by first | exact (Z4 h0 rfl) | simp only [Zf, h0, cond_true, cond_false]
   exact ⟨trivial, .inl (by (try rw [hF]); kernel_rfl), by (try rw [hF]); kernel_rfl⟩
noncomputable def rD_zone_fact : Fact Try.prog := factOf 93 Try.f93 (by kernel_rfl) rfl (by kernel_rfl) [.c (.ptr 0 0), .c (.str)] [.cells 106 [.vec 1, .vec 2, .vec 3, .vec 4], .vec false .zone, .vec false .vol, .vec false .snap, .vec false .done] true (fun t u => .int .i64 (Zf t.2.1 u.2.1 u.2.2.1 u.2.2.2.1 u.2.2.2.2.1)) (fun t u => HPL.enc _ u) (fun t u => [u.2.1.length ≤ 1000, u.2.2.1.length ≤ 1000, u.2.2.2.1.length ≤ 1000, u.2.2.2.2.1.length ≤ 1000])
 (fun _ _ _ => rfl) (fun t u => by kernel_rfl) (fun t u => by kernel_rfl) (fun t u h => rD_zoneF_tr t.2.1 u.2.1 u.2.2.1 u.2.2.2.1 u.2.2.2.2.1 (h _ List.mem_cons_self) (h _ (List.mem_cons_of_mem _ List.mem_cons_self)) (h _ (List.mem_cons_of_mem _ (List.mem_cons_of_mem _ List.mem_cons_self))) (h _ (List.mem_cons_of_mem _ (List.mem_cons_of_mem _ (List.mem_cons_of_mem _ List.mem_cons_self)))))
end Go.Proofs.Ytpffbkbadnhmmaa
