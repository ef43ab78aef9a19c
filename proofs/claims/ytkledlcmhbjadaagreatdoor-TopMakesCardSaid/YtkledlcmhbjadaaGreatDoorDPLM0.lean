/- The law TopMakes, plainly: what each step of a claim comes to. -/
import Derived.Test.YtkledlcmhbjadaaGreatDoorDRawC
import Derived.Test.YtkledlcmhbjadaaGreatDoorDH4
set_option linter.unusedVariables false
set_option linter.unusedSimpArgs false
set_option maxRecDepth 100000
namespace Go.Proofs.YtkledlcmhbjadaaGreatDoor
open Go Go.Eng
abbrev mZ : ByteArray := ⟨#[122]⟩
abbrev mF : ByteArray := ⟨#[102]⟩
abbrev mC : ByteArray := ⟨#[99]⟩
abbrev m0 : ByteArray := ⟨#[]⟩
abbrev mT : ByteArray := ⟨#[112, 118, 99, 47, 99, 35, 49]⟩
abbrev mR : ByteArray := ⟨#[99, 35, 49]⟩
def cls : XObj := ⟨1, mF, 0, 0, false, false, m0, 0, 0, 0, false, false, mZ, m0, m0, m0, m0, 0, 0, 0⟩
def clm (s ver got : Int) (zone vol : ByteArray) (ph num : Int) : XObj := ⟨3, mC, ver, 1, false, true, mF, s, got, 1, false, false, zone, m0, m0, vol, m0, ph, num, 0⟩
def vob (s ver : Int) : XObj := ⟨4, mT, ver, 0, false, true, mF, s, s, 1, false, false, mZ, m0, mR, m0, m0, 3, 0, 0⟩
def mkc (s n : Int) : XCall := ⟨1, mT, n, s, mZ, m0, m0⟩
theorem Zba (s v ver num : Int) : Z0 v mC [cls, clm s ver 0 m0 m0 1 num] = ⟨1, clm s ver 0 mZ m0 2 (IntKind.u64.wrap (v + 1)), default⟩ := by kernel_rfl
theorem Zbb (s v ver num : Int) : Z0 v mC [cls, clm s ver 0 mZ m0 2 num] = ⟨3, default, mkc s num⟩ := by kernel_rfl
theorem Z1c1 (s v ver num ver2 : Int) : Z0 v mC [cls, clm s ver 0 mZ m0 2 num, vob s ver2] = ⟨1, clm s ver s mZ mT 3 0, default⟩ := by kernel_rfl
theorem Z15d (s v ver ver2 : Int) : Z0 v mC [cls, clm s ver s mZ mT 3 0, vob s ver2] = default := by kernel_rfl
section
variable (s v ver num : Int)
abbrev mL : List XObj := [cls, clm s ver 0 mZ m0 2 num]
theorem ask_make : Z8 (mkc s num) = ⟨3, default, mkc s num⟩ := by kernel_rfl
theorem Z1ec : Z11 (Z2 (mL s ver num)) v mC = ⟨3, default, mkc s num⟩ := by kernel_rfl
theorem get_claim : Z1 3 mC (Z2 (mL s ver num)) = (clm s ver 0 mZ m0 2 num, true) := by kernel_rfl
theorem get_class : Z1 1 (clm s ver 0 mZ m0 2 num).cls (Z2 (mL s ver num)) = (cls, true) := by kernel_rfl
theorem after_ok : Za v ⟨3, mC⟩ (mkc s num) ⟨0, s, mZ, 0⟩ (mL s ver num) = ⟨1, vob s 0, default⟩ := by
 unfold Za
 simp only [Z1ec, ask_make, get_claim, get_class, beq_self_eq_true, decide_true, Bool.and_self, Bool.not_true, cond_true, cond_false]
 refine Eq.trans (b := (⟨1, cond (s == 0) (vob s 0) (vob s 0), default⟩ : XAct)) (by kernel_rfl) ?_
 cases s == 0 <;> rfl
theorem after_busy : Za v ⟨3, mC⟩ (mkc s num) ⟨10, 0, m0, 0⟩ (mL s ver num) = ⟨1, clm s ver 0 m0 m0 1 (IntKind.u64.wrap (v + 1)), default⟩ := by
 unfold Za
 simp only [Z1ec, ask_make, get_claim, get_class, beq_self_eq_true, decide_true, Bool.and_self, Bool.not_true, cond_true, cond_false]
 kernel_rfl
theorem Z1c3 : Za v ⟨3, mC⟩ (mkc s num) ⟨13, 0, m0, 0⟩ (mL s ver num) = default := by
 unfold Za
 simp only [Z1ec, ask_make, get_claim, get_class, beq_self_eq_true, decide_true, Bool.and_self, Bool.not_true, cond_true, cond_false]
 kernel_rfl
end
abbrev dB1 (r : Int) : List (ByteArray × Int) := [(mZ, r)]
abbrev dB2 (s : Int) : List (ByteArray × XVn) := [(mT, ⟨s, mZ, 0, []⟩)]
abbrev dB4 (s n : Int) : List (XTgt × XDone) := [(⟨false, mT⟩, ⟨mkc s n, ⟨0, s, mZ, 0⟩⟩)]
theorem Zfd {s n : Int} (hs : 1 ≤ s ∧ s ≤ 256) (hn : 1 ≤ n) : Z32 (mkc s n) = true := by
 unfold Z32
 have h1 : Z31 (mkc s n).target = true := by kernel_rfl
 have h2 : Z31 (mkc s n).zone = true := by kernel_rfl
 have h3 : Z31 (mkc s n).node = false := by kernel_rfl
 have h4 : Z31 (mkc s n).source = false := by kernel_rfl
 simp only [h1, h2, h3, h4]
 have e1 : ((mkc s n).num == 0) = false := beq_eq_false_iff_ne.2 (by show n ≠ 0; omega)
 have e2 : decide ((mkc s n).size < 0) = false := decide_eq_false (by show ¬ s < 0; omega)
 have e3 : decide ((mkc s n).size > 1125899906842624) = false := decide_eq_false (by show ¬ s > _; omega)
 have e4 : decide ((mkc s n).size > 0) = true := decide_eq_true (by show s > 0; omega)
 simp only [e1, e2, e3, e4]
 show _ = true
 kernel_rfl
theorem create_first (s n : Int) : Z1e (mkc s n) (dB1 1000) [] [] [] = cond (decide ((0 : Int) > s)) (⟨12, 0, m0, 0⟩, dB1 1000, []) (cond (decide ((1000 : Int) < s)) (⟨11, 0, m0, 0⟩, dB1 1000, []) (⟨0, s, mZ, 0⟩, dB1 (IntKind.i64.wrap (1000 - s)), dB2 s)) := by kernel_rfl
theorem create_more (s n r : Int) (b4 : List (XTgt × XDone)) : Z1e (mkc s n) (dB1 r) (dB2 s) [] b4 = cond (decide (s < s)) (⟨12, 0, m0, 0⟩, dB1 r, dB2 s) (⟨0, s, mZ, 0⟩, dB1 r, dB2 s) := by kernel_rfl
section
variable {s n : Int}
theorem act_first (hs : 1 ≤ s ∧ s ≤ 256) (n : Int) : Z21 (mkc s n) (dB1 1000) [] [] [] = (⟨0, s, mZ, 0⟩, dB1 (1000 - s), dB2 s, []) := by
 have hc := create_first s n
 rw [decide_eq_false (by omega : ¬ (0 : Int) > s), decide_eq_false (by omega : ¬ (1000 : Int) < s), Z27d (by omega) (by omega)] at hc
 simp only [cond_false] at hc
 unfold Z21
 rw [hc]
 rfl
theorem act_more (s n r : Int) (b4 : List (XTgt × XDone)) : Z21 (mkc s n) (dB1 r) (dB2 s) [] b4 = (⟨0, s, mZ, 0⟩, dB1 r, dB2 s, []) := by
 have hc := create_more s n r b4
 rw [decide_eq_false (by omega : ¬ s < s)] at hc
 simp only [cond_false] at hc
 unfold Z21
 rw [hc]
 rfl
theorem tgt_make (s n : Int) : Z1a (mkc s n).verb (mkc s n).target = ⟨false, mT⟩ := by kernel_rfl
theorem get_past (s n : Int) : mget (k := .tgt) (v := .done) (dB4 s n) ⟨false, mT⟩ = some ⟨mkc s n, ⟨0, s, mZ, 0⟩⟩ := by kernel_rfl
theorem set_past (s n m : Int) (x : XDone) : mset (k := .tgt) (v := .done) (dB4 s n) ⟨false, mT⟩ x = [(⟨false, mT⟩, x)] := by kernel_rfl
theorem do_first (hs : 1 ≤ s ∧ s ≤ 256) (hn : 1 ≤ n) : Z2e (mkc s n) (dB1 1000) [] [] [] = (⟨0, s, mZ, 0⟩, dB1 (1000 - s), dB2 s, [], dB4 s n) := by
 unfold Z2e
 rw [Zfd hs hn, act_first hs, tgt_make]
 rfl
theorem cmp_self (m : Int) : Z17 m m = 0 := by
 unfold Z17 Z58
 simp
theorem cmp_gt {m n : Int} (h : m < n) : Z17 n m = 1 := by
 unfold Z17 Z58
 rw [decide_eq_false (by omega : ¬ n < m), decide_eq_true (by omega : n > m)]
 simp
theorem num_make (s n : Int) : (mkc s n).num = n := rfl
theorem do_more {m r : Int} (hs : 1 ≤ s ∧ s ≤ 256) (hn : 1 ≤ n) (hm : m ≤ n) : Z2e (mkc s n) (dB1 r) (dB2 s) [] (dB4 s m) = (⟨0, s, mZ, 0⟩, dB1 r, dB2 s, [], dB4 s n) := by
 unfold Z2e
 rw [Zfd hs hn, act_more, tgt_make, get_past]
 simp only [Option.isSome_some, Option.getD_some, Bool.not_true, cond_true, cond_false, set_past s m n, num_make]
 by_cases h : m = n
 · subst h
   simp [cmp_self]
 · simp [cmp_gt (show m < n by omega)]
end
section
variable {s n : Int} (hs : 1 ≤ s ∧ s ≤ 256) (hn : 1 ≤ n) {p : List XCall} (hp : p.length < 4096) (b1 : List (ByteArray × Int)) (b2 : List (ByteArray × XVn)) (b3 : List (ByteArray × XSn)) (b4 : List (XTgt × XDone))
include hs hn hp
theorem send_0 : Z3 (mkc s n) 0 p b1 b2 b3 b4 = ((Z2e (mkc s n) b1 b2 b3 b4).1, (Z2e (mkc s n) b1 b2 b3 b4).2.1, (Z2e (mkc s n) b1 b2 b3 b4).2.2.1, (Z2e (mkc s n) b1 b2 b3 b4).2.2.2.1, (Z2e (mkc s n) b1 b2 b3 b4).2.2.2.2, p ++ [mkc s n]) := by
 unfold Z3
 rw [Zfd hs hn, decide_eq_false (by omega : ¬ (p.length : Int) ≥ 4096)]
 rfl
theorem send_1 : Z3 (mkc s n) 1 p b1 b2 b3 b4 = (⟨10, 0, m0, 0⟩, b1, b2, b3, b4, p ++ [mkc s n]) := by
 unfold Z3
 rw [Zfd hs hn, decide_eq_false (by omega : ¬ (p.length : Int) ≥ 4096)]
 rfl
theorem send_2 : Z3 (mkc s n) 2 p b1 b2 b3 b4 = (⟨13, 0, m0, 0⟩, (Z2e (mkc s n) b1 b2 b3 b4).2.1, (Z2e (mkc s n) b1 b2 b3 b4).2.2.1, (Z2e (mkc s n) b1 b2 b3 b4).2.2.2.1, (Z2e (mkc s n) b1 b2 b3 b4).2.2.2.2, p ++ [mkc s n]) := by
 unfold Z3
 rw [Zfd hs hn, decide_eq_false (by omega : ¬ (p.length : Int) ≥ 4096)]
 rfl
theorem send_3 : Z3 (mkc s n) 3 p b1 b2 b3 b4 = (⟨13, 0, m0, 0⟩, b1, b2, b3, b4, p ++ [mkc s n]) := by
 unfold Z3
 rw [Zfd hs hn, decide_eq_false (by omega : ¬ (p.length : Int) ≥ 4096)]
 rfl
end
end Go.Proofs.YtkledlcmhbjadaaGreatDoor
