/- The law CallSent. -/
import Derived.Test.YtpffbkbadnhmmaaDPLV
set_option linter.unusedVariables false
set_option linter.unusedSimpArgs false
set_option maxRecDepth 100000
namespace Go.Proofs.Ytpffbkbadnhmmaa
open Go Go.Eng
noncomputable def E_w11_CallSent : Env := envOf (P := Try.prog) [Za9, Z8f, Z6d, Z99, Z135, Z5c] [] [] ckf true
abbrev kCs0 (a1 : XDeed2) (a0 : List XDeed2) := (Z1 (⟨a1.c.verb, a1.c.target, a1.c.num, a1.c.size, a1.c.zone, a1.c.node, a1.c.source⟩ : XCall) a1.o ((Z0 a0).2.1) ((Z3 a1.i ((Z0 a0).2.1) ((Z0 a0).2.2.2.1) ((Z0 a0).2.2.2.2.1) ((Z0 a0).2.2.2.2.2.1) ((Z0 a0).2.2.2.2.2.2.1)).2.1) ((Z3 a1.i ((Z0 a0).2.1) ((Z0 a0).2.2.2.1) ((Z0 a0).2.2.2.2.1) ((Z0 a0).2.2.2.2.2.1) ((Z0 a0).2.2.2.2.2.2.1)).2.2.1) ((Z3 a1.i ((Z0 a0).2.1) ((Z0 a0).2.2.2.1) ((Z0 a0).2.2.2.2.1) ((Z0 a0).2.2.2.2.2.1) ((Z0 a0).2.2.2.2.2.2.1)).2.2.2.1) ((Z3 a1.i ((Z0 a0).2.1) ((Z0 a0).2.2.2.1) ((Z0 a0).2.2.2.2.1) ((Z0 a0).2.2.2.2.2.1) ((Z0 a0).2.2.2.2.2.2.1)).2.2.2.2))
abbrev kCs1 (a1 : XDeed2) (a0 : List XDeed2) := (cond (cond (((Zc ((kCs0 a1 a0).2.2.2.2.2) ((kCs0 a1 a0).2.1) ((kCs0 a1 a0).2.2.1) ((kCs0 a1 a0).2.2.2.1) ((kCs0 a1 a0).2.2.2.2.1)).length : Int) == (IntKind.i64.wrap (((Zc ((Z0 a0).2.1) ((Z0 a0).2.2.2.1) ((Z0 a0).2.2.2.2.1) ((Z0 a0).2.2.2.2.2.1) ((Z0 a0).2.2.2.2.2.2.1)).length : Int) + (1 : Int)))) (Z3b (((Zc ((kCs0 a1 a0).2.2.2.2.2) ((kCs0 a1 a0).2.1) ((kCs0 a1 a0).2.2.1) ((kCs0 a1 a0).2.2.2.1) ((kCs0 a1 a0).2.2.2.2.1)).take ((Zc ((Z0 a0).2.1) ((Z0 a0).2.2.2.1) ((Z0 a0).2.2.2.2.1) ((Z0 a0).2.2.2.2.2.1) ((Z0 a0).2.2.2.2.2.2.1)).length)).drop 0) (Zc ((Z0 a0).2.1) ((Z0 a0).2.2.2.1) ((Z0 a0).2.2.2.2.1) ((Z0 a0).2.2.2.2.2.1) ((Z0 a0).2.2.2.2.2.2.1))) false) (((((Zc ((kCs0 a1 a0).2.2.2.2.2) ((kCs0 a1 a0).2.1) ((kCs0 a1 a0).2.2.1) ((kCs0 a1 a0).2.2.2.1) ((kCs0 a1 a0).2.2.2.2.1)).getD (((Zc ((Z0 a0).2.1) ((Z0 a0).2.2.2.1) ((Z0 a0).2.2.2.2.1) ((Z0 a0).2.2.2.2.2.1) ((Z0 a0).2.2.2.2.2.2.1)).length : Int).toNat) default).verb) == a1.c.verb) && ((decide ((((Zc ((kCs0 a1 a0).2.2.2.2.2) ((kCs0 a1 a0).2.1) ((kCs0 a1 a0).2.2.1) ((kCs0 a1 a0).2.2.2.1) ((kCs0 a1 a0).2.2.2.2.1)).getD (((Zc ((Z0 a0).2.1) ((Z0 a0).2.2.2.1) ((Z0 a0).2.2.2.2.1) ((Z0 a0).2.2.2.2.2.1) ((Z0 a0).2.2.2.2.2.2.1)).length : Int).toNat) default).target) = a1.c.target)) && (((((Zc ((kCs0 a1 a0).2.2.2.2.2) ((kCs0 a1 a0).2.1) ((kCs0 a1 a0).2.2.1) ((kCs0 a1 a0).2.2.2.1) ((kCs0 a1 a0).2.2.2.2.1)).getD (((Zc ((Z0 a0).2.1) ((Z0 a0).2.2.2.1) ((Z0 a0).2.2.2.2.1) ((Z0 a0).2.2.2.2.2.1) ((Z0 a0).2.2.2.2.2.2.1)).length : Int).toNat) default).num) == a1.c.num) && (((((Zc ((kCs0 a1 a0).2.2.2.2.2) ((kCs0 a1 a0).2.1) ((kCs0 a1 a0).2.2.1) ((kCs0 a1 a0).2.2.2.1) ((kCs0 a1 a0).2.2.2.2.1)).getD (((Zc ((Z0 a0).2.1) ((Z0 a0).2.2.2.1) ((Z0 a0).2.2.2.2.1) ((Z0 a0).2.2.2.2.2.1) ((Z0 a0).2.2.2.2.2.2.1)).length : Int).toNat) default).size) == a1.c.size) && ((decide ((((Zc ((kCs0 a1 a0).2.2.2.2.2) ((kCs0 a1 a0).2.1) ((kCs0 a1 a0).2.2.1) ((kCs0 a1 a0).2.2.2.1) ((kCs0 a1 a0).2.2.2.2.1)).getD (((Zc ((Z0 a0).2.1) ((Z0 a0).2.2.2.1) ((Z0 a0).2.2.2.2.1) ((Z0 a0).2.2.2.2.2.1) ((Z0 a0).2.2.2.2.2.2.1)).length : Int).toNat) default).zone) = a1.c.zone)) && ((decide ((((Zc ((kCs0 a1 a0).2.2.2.2.2) ((kCs0 a1 a0).2.1) ((kCs0 a1 a0).2.2.1) ((kCs0 a1 a0).2.2.2.1) ((kCs0 a1 a0).2.2.2.2.1)).getD (((Zc ((Z0 a0).2.1) ((Z0 a0).2.2.2.1) ((Z0 a0).2.2.2.2.1) ((Z0 a0).2.2.2.2.2.1) ((Z0 a0).2.2.2.2.2.2.1)).length : Int).toNat) default).node) = a1.c.node)) && (decide ((((Zc ((kCs0 a1 a0).2.2.2.2.2) ((kCs0 a1 a0).2.1) ((kCs0 a1 a0).2.2.1) ((kCs0 a1 a0).2.2.2.1) ((kCs0 a1 a0).2.2.2.2.1)).getD (((Zc ((Z0 a0).2.1) ((Z0 a0).2.2.2.1) ((Z0 a0).2.2.2.2.1) ((Z0 a0).2.2.2.2.2.1) ((Z0 a0).2.2.2.2.2.2.1)).length : Int).toNat) default).source) = a1.c.source)))))))) false)
abbrev kCs2 (a0 : List XDeed2) := (Zc ((Z0 a0).2.1) ((Z0 a0).2.2.2.1) ((Z0 a0).2.2.2.2.1) ((Z0 a0).2.2.2.2.2.1) ((Z0 a0).2.2.2.2.2.2.1))
abbrev kCs3 (a1 : XDeed2) (a0 : List XDeed2) := (Z3 a1.i ((Z0 a0).2.1) ((Z0 a0).2.2.2.1) ((Z0 a0).2.2.2.2.1) ((Z0 a0).2.2.2.2.2.1) ((Z0 a0).2.2.2.2.2.2.1))
abbrev kCs4 (a1 : XDeed2) (a0 : List XDeed2) := (Zc ((kCs0 a1 a0).2.2.2.2.2) ((kCs0 a1 a0).2.1) ((kCs0 a1 a0).2.2.1) ((kCs0 a1 a0).2.2.2.1) ((kCs0 a1 a0).2.2.2.2.1))
def Z50 (a0 : List XDeed2) (a1 : XDeed2) : Bool :=
 cond (cond (!Z5e) true (!((Z0 a0).1)))
  false
  (cond (!(Z3b (Zc ((Z0 a0).2.1) ((kCs3 a1 a0).2.1) ((kCs3 a1 a0).2.2.1) ((kCs3 a1 a0).2.2.2.1) ((kCs3 a1 a0).2.2.2.2)) (kCs2 a0)))
    false
    (cond ((((kCs0 a1 a0).1).err) == (2 : Int))
      (Z3b (kCs4 a1 a0) (kCs2 a0))
      (kCs1 a1 a0)))
def Z12d (a0 : List XDeed2) (a1 : XDeed2) : RT :=
 (.need [∀ x ∈ a0, D2 x]
   (.ask (cond (!Z5e) true (!((Z0 a0).1)))
     (.leaf .ret ⟨slots 72 [(4, .bool false)], []⟩ [])
     (.need [((Z0 a0).2.1).length ≤ 1000000]
       (.need [∀ x ∈ ((Z0 a0).2.1), CS x]
         (.need [((Z0 a0).2.1).length ≤ 1000000]
           (.need [(Zc ((Z0 a0).2.1) ((kCs3 a1 a0).2.1) ((kCs3 a1 a0).2.2.1) ((kCs3 a1 a0).2.2.2.1) ((kCs3 a1 a0).2.2.2.2)).length ≤ 1000000]
             (.ask (!(Z3b (Zc ((Z0 a0).2.1) ((kCs3 a1 a0).2.1) ((kCs3 a1 a0).2.2.1) ((kCs3 a1 a0).2.2.2.1) ((kCs3 a1 a0).2.2.2.2)) (kCs2 a0)))
               (.leaf .ret ⟨slots 72 [(4, .bool false)], []⟩ [])
               (.need [CS (⟨a1.c.verb, a1.c.target, a1.c.num, a1.c.size, a1.c.zone, a1.c.node, a1.c.source⟩ : XCall)]
                 (.need [((kCs0 a1 a0).2.2.2.2.2).length ≤ 1000000]
                   (.ask ((((kCs0 a1 a0).1).err) == (2 : Int))
                     (.need [(kCs4 a1 a0).length ≤ 1000000]
                       (.leaf .ret ⟨slots 72 [(4, .bool (Z3b (kCs4 a1 a0) (kCs2 a0)))], []⟩ []))
                     (.need [((((kCs4 a1 a0).length : Int) == (IntKind.i64.wrap (((kCs2 a0).length : Int) + (1 : Int)))) = true) → (0 ≤ (0 : Int) ∧ (0 : Int) ≤ ((kCs2 a0).length : Int) ∧ ((kCs2 a0).length : Int) ≤ ((kCs4 a1 a0).length : Int)), ((((kCs4 a1 a0).length : Int) == (IntKind.i64.wrap (((kCs2 a0).length : Int) + (1 : Int)))) = true) → ((((kCs4 a1 a0).take ((kCs2 a0).length)).drop 0).length ≤ 1000000), ((cond (((kCs4 a1 a0).length : Int) == (IntKind.i64.wrap (((kCs2 a0).length : Int) + (1 : Int)))) (Z3b (((kCs4 a1 a0).take ((kCs2 a0).length)).drop 0) (kCs2 a0)) false) = true) → (0 ≤ ((kCs2 a0).length : Int) ∧ ((kCs2 a0).length : Int) < ((kCs4 a1 a0).length : Int))]
                       (.leaf .ret ⟨slots 72 [(4, .bool (kCs1 a1 a0))], []⟩ []))))))))))))
theorem Z151 (a0 : List XDeed2) (a1 : XDeed2) (hp0 : ∀ x ∈ a0, D2 x) (hp1 : D2 a1) : Tr Try.prog 0 (bodyOf Try.f13) (fnBegins Try.f13 [.coll ⟨.deed2, a0⟩, .agg [.int .u8 a1.c.verb, .str a1.c.target, .int .u64 a1.c.num, .int .i64 a1.c.size, .str a1.c.zone, .str a1.c.node, .str a1.c.source, .int .u8 a1.o, .int .u64 a1.tag, .bool a1.again, .int .i64 a1.i]] []) (fnEnds Try.prog Try.f13 (.bool (Z50 a0 a1)) []) := by
 refine Tr_tree (kok _ _ _ _ _ _) (E := E_w11_CallSent) (L := noLoops) 60 9999 Z11.none (Z12d a0 a1) (by kernel_rfl) (by kernel_rfl) (by kernel_rfl) ?_
 unfold Z12d
 refine ⟨Z5 (by (try refine fun (_ : _ = _) => ?_); (try refine fun (_ : _ ∧ _) => ?_); assumption) (Z9), ?_⟩
 refine ⟨fun h0 => ?_, fun h0 => ?_⟩
 · have hF : Z50 a0 a1 = false := by first | exact (Z14 h0 rfl) | simp only [Z50, h0, cond_true, cond_false]
   exact ⟨trivial, .inl (by (try rw [hF]); kernel_rfl), by (try rw [hF]); kernel_rfl⟩
 · refine ⟨Z5 (by (try refine fun (_ : _ = _) => ?_); (try refine fun (_ : _ ∧ _) => ?_); (try simp only [kCs0, kCs1, kCs2, kCs3, kCs4]); exact PC.len (by (repeat (first | exact pc_play hp0 | exact pc_once hp0 hp1 | exact hp1 | exact hp1.1 | decide | exact hp1.2 | apply pc_send | apply pc_again | apply pc_fork))) (by decide)) (Z9), ?_⟩
   refine ⟨Z5 (by (try refine fun (_ : _ = _) => ?_); (try refine fun (_ : _ ∧ _) => ?_); (try simp only [kCs0, kCs1, kCs2, kCs3, kCs4]); exact PC.cs (by (repeat (first | exact pc_play hp0 | exact pc_once hp0 hp1 | exact hp1 | exact hp1.1 | decide | exact hp1.2 | apply pc_send | apply pc_again | apply pc_fork))) (by decide)) (Z9), ?_⟩
   refine ⟨Z5 (by (try refine fun (_ : _ = _) => ?_); (try refine fun (_ : _ ∧ _) => ?_); (try simp only [kCs0, kCs1, kCs2, kCs3, kCs4]); exact PC.len (by (repeat (first | exact pc_play hp0 | exact pc_once hp0 hp1 | exact hp1 | exact hp1.1 | decide | exact hp1.2 | apply pc_send | apply pc_again | apply pc_fork))) (by decide)) (Z9), ?_⟩
   refine ⟨Z5 (by (try refine fun (_ : _ = _) => ?_); (try refine fun (_ : _ ∧ _) => ?_); (try simp only [kCs0, kCs1, kCs2, kCs3, kCs4]); exact PC.len (by (repeat (first | exact pc_play hp0 | exact pc_once hp0 hp1 | exact hp1 | exact hp1.1 | decide | exact hp1.2 | apply pc_send | apply pc_again | apply pc_fork))) (by decide)) (Z9), ?_⟩
   refine ⟨fun h1 => ?_, fun h1 => ?_⟩
   · have hF : Z50 a0 a1 = false := by first | exact (Z7 h0 (Z14 h1 rfl)) | simp only [Z50, h0, h1, cond_true, cond_false]
     exact ⟨trivial, .inl (by (try rw [hF]); kernel_rfl), by (try rw [hF]); kernel_rfl⟩
   · refine ⟨Z5 (by (try refine fun (_ : _ = _) => ?_); (try refine fun (_ : _ ∧ _) => ?_); first | assumption | exact hp1.1) (Z9), ?_⟩
     refine ⟨Z5 (by (try refine fun (_ : _ = _) => ?_); (try refine fun (_ : _ ∧ _) => ?_); (try simp only [kCs0, kCs1, kCs2, kCs3, kCs4]); exact PC.len (by (repeat (first | exact pc_play hp0 | exact pc_once hp0 hp1 | exact hp1 | exact hp1.1 | decide | exact hp1.2 | apply pc_send | apply pc_again | apply pc_fork))) (by decide)) (Z9), ?_⟩
     refine ⟨fun h2 => ?_, fun h2 => ?_⟩
     · refine ⟨Z5 (by (try refine fun (_ : _ = _) => ?_); (try refine fun (_ : _ ∧ _) => ?_); (try simp only [kCs0, kCs1, kCs2, kCs3, kCs4]); exact PC.len (by (repeat (first | exact pc_play hp0 | exact pc_once hp0 hp1 | exact hp1 | exact hp1.1 | decide | exact hp1.2 | apply pc_send | apply pc_again | apply pc_fork))) (by decide)) (Z9), ?_⟩
       have hF : Z50 a0 a1 = (Z3b (kCs4 a1 a0) (kCs2 a0)) := by first | exact (Z7 h0 (Z7 h1 (Z14 h2 rfl))) | simp only [Z50, h0, h1, h2, cond_true, cond_false]
       exact ⟨trivial, .inl (by (try rw [hF]); kernel_rfl), by (try rw [hF]); kernel_rfl⟩
     · refine ⟨Z5 (by (try refine fun (_ : _ = _) => ?_); (try refine fun (_ : _ ∧ _) => ?_); ((try simp only [kCs0, kCs1, kCs2, kCs3, kCs4] at *); have h8 := PC.len (pc_play hp0) (by decide); simp only [Bool.cond_false_right, Bool.and_eq_true, beq_iff_eq, Zc, IntKind.wrap_i64] at *; first | omega | (constructor <;> omega))) (Z5 (by (try refine fun (_ : _ = _) => ?_); (try refine fun (_ : _ ∧ _) => ?_); ((try simp only [kCs0, kCs1, kCs2, kCs3, kCs4] at *); have h8 := PC.len (pc_play hp0) (by decide); simp only [List.drop_zero, List.length_take, Zc] at *; omega)) (Z5 (by (try refine fun (_ : _ = _) => ?_); (try refine fun (_ : _ ∧ _) => ?_); ((try simp only [kCs0, kCs1, kCs2, kCs3, kCs4] at *); have h8 := PC.len (pc_play hp0) (by decide); simp only [Bool.cond_false_right, Bool.and_eq_true, beq_iff_eq, Zc, IntKind.wrap_i64] at *; first | omega | (constructor <;> omega))) (Z9))), ?_⟩
       have hF : Z50 a0 a1 = (kCs1 a1 a0) := by first | exact (Z7 h0 (Z7 h1 (Z7 h2 rfl))) | simp only [Z50, h0, h1, h2, cond_true, cond_false]
       exact ⟨trivial, .inl (by (try rw [hF]); kernel_rfl), by (try rw [hF]); kernel_rfl⟩
end Go.Proofs.Ytpffbkbadnhmmaa
