/- The driver: what it tells. -/
import Derived.Test.YtkledlcmhbjadaaGreatDDo
import Derived.Test.YtkledlcmhbjadaaGreatDH3
set_option linter.unusedVariables false
set_option linter.unusedSimpArgs false
set_option maxRecDepth 100000
namespace Go.Proofs.YtkledlcmhbjadaaGreat
open Go Go.Eng
noncomputable def Z187 : Env := Z65 (P := Tryz.prog) [] [] [] ckf true
def Z1ae (a1 : BA) (a2 : Bool) (b1 : List BA) (b1_0 : BA) (b1_1 : Int) (b1_2 : BA) (b1_3 : Int) : RT :=
 (.leaf .normal ⟨Za 41 [(6, .ptr 1 0), (7, .str a1)], [.dead, .cells 106 [.str b1_0, .int .i64 b1_1, .str b1_2, .int .u64 b1_3, .vec 2], .vec false ⟨.str, b1⟩]⟩ [])
def Z1ad (a1 : BA) (a2 : Bool) (b1 : List BA) (b1_0 : BA) (b1_1 : Int) (b1_2 : BA) (b1_3 : Int) : RT :=
 (.need [(b1.length + [a1].length) * 16 ≤ Z18 ∧ b1.length + [a1].length ≤ maxLen]
   (.leaf .normal ⟨Za 41 [], [.dead, .cells 106 [.str b1_0, .int .i64 b1_1, .str b1_2, .int .u64 b1_3, .vec 2], .vec false ⟨.str, (b1 ++ [a1])⟩]⟩ [0, 1, 4]))
theorem Z24f (a1 : BA) (a2 : Bool) (b1 : List BA) (b1_0 : BA) (b1_1 : Int) (b1_2 : BA) (b1_3 : Int) (hp0 : b1.length ≤ 1000000) : Tr Tryz.prog 2 (Globs.site 1).2.1 ⟨Za 41 [(6, .ptr 1 0), (28, .str a1), (29, .bool a2)], .dead :: [.var 106 [.str b1_0, .int .i64 b1_1, .str b1_2, .int .u64 b1_3] false ⟨.str, b1⟩]⟩ (fun e s1 => e = .normal ∧ Tr Tryz.prog 2 (Globs.site 1).2.2 s1 (rdEnds (true) .normal [.var 106 [.str b1_0, .int .i64 b1_1, .str b1_2, .int .u64 b1_3] false ⟨.str, (b1 ++ [a1])⟩] .normal [.var 106 [.str b1_0, .int .i64 b1_1, .str b1_2, .int .u64 b1_3] false ⟨.str, (b1 ++ [a1])⟩])) := by
 refine Tr.pre (Turn.unfold 1 2 rfl (by simp)) ?_
 refine Z2f (kok _ _ _ _ _ _) (E := Z187) (L := Z32) 60 9999 Z14.none (Z1ae a1 a2 b1 b1_0 b1_1 b1_2 b1_3) (by kernel_rfl) (by kernel_rfl) (by kernel_rfl) ?_
 unfold Z1ae
 refine ⟨rfl, ?_⟩
 refine Tr.post ?_
 refine Z2f (kok _ _ _ _ _ _) (E := Z187) (L := Z32) 60 9999 Z14.none (Z1ad a1 a2 b1 b1_0 b1_1 b1_2 b1_3) (by kernel_rfl) (by kernel_rfl) (by kernel_rfl) ?_
 unfold Z1ad
 refine ⟨Z2 (by unfold Z18 maxLen; (try simp only [List.length_append, List.length_cons, List.length_nil]); omega) (Z9), ?_⟩
 exact ⟨_, Turn.fold 1 2 [.str b1_0, .int .i64 b1_1, .str b1_2, .int .u64 b1_3] rfl rfl rfl, .inl ⟨rfl, rfl, by kernel_rfl⟩⟩
noncomputable def Z1f2 : FactY Tryz.prog := factY 1 [.c (.str), .c (.bool)] (cpsOf 41 [(6, .ptr 1 0)]) [.var 106 [.str, .int .i64, .str, .int .u64] false .str] (fun t u => true) .normal .normal none none (fun t u => [.var 106 [.str u.2.1.2.1, .int .i64 u.2.1.2.2.1, .str u.2.1.2.2.2.1, .int .u64 u.2.1.2.2.2.2.1] false ⟨.str, (u.2.1.1 ++ [t.2.1])⟩]) (fun t u => [.var 106 [.str u.2.1.2.1, .int .i64 u.2.1.2.2.1, .str u.2.1.2.2.2.1, .int .u64 u.2.1.2.2.2.2.1] false ⟨.str, (u.2.1.1 ++ [t.2.1])⟩]) (fun t u => [u.2.1.1.length ≤ 1000000]) rfl rfl
 (fun t u => by kernel_rfl) (fun t => by kernel_rfl) (fun t u => by kernel_rfl) (fun t u => by kernel_rfl) (fun t u => by kernel_rfl) (fun t u => Za 41 [(6, .ptr 1 0), (28, .str t.2.1), (29, .bool t.2.2.1)]) (fun t u => by kernel_rfl) (fun t u h => Z24f t.2.1 t.2.2.1 u.2.1.1 u.2.1.2.1 u.2.1.2.2.1 u.2.1.2.2.2.1 u.2.1.2.2.2.2.1 (h _ mS))
noncomputable def Z12e : Env := Z65 (P := Tryz.prog) [box86_fact, sorted104_fact] [] [] ckf false [Z1f2]
def Z21  : List BA → List BA → List BA
 | [], v6 => v6
 | o :: r, v6 => Z21 r (v6 ++ [o])
def Z94 (a1 : BA) (a2_0 : Int) (a2_1 : BA) (a2_2 : Int) (a2_3 : Bool) (b1 : LB) (b1_k : BA) (b3 : LV) (i : Nat) (v6 : List BA) : St :=
 ⟨Za 21 [(0, .yld 6), (1, .ptr 5 0), (7, .coll ⟨.str, (Z29 (((vget b1 b1_k).getD default).nodes.map Prod.fst))⟩), (8, .int .i64 ((Z29 (((vget b1 b1_k).getD default).nodes.map Prod.fst)).length : Int)), (9, .int .i64 (i : Int))], [.dead, .vols b1 (some (2, b1_k)), .dead, .var 54 [] false ⟨.vol, b3⟩, .var 106 [.str a1, .int .i64 a2_0, .str a2_1, .int .u64 a2_2] false ⟨.str, v6⟩, .cells 89 [.mapq a2_3 1 2], .loop 1 (Za 41 [(6, .ptr 4 0)]) none]⟩
def Zc9 (a1 : BA) (a2_0 : Int) (a2_1 : BA) (a2_2 : Int) (a2_3 : Bool) (b1 : LB) (b1_k : BA) (b3 : LV) (i : Nat) (v6 : List BA) : RT :=
 (.ask (decide ((i : Int) < ((Z29 (((vget b1 b1_k).getD default).nodes.map Prod.fst)).length : Int)))
   (.need [0 ≤ (i : Int) ∧ (i : Int) < ((Z29 (((vget b1 b1_k).getD default).nodes.map Prod.fst)).length : Int)]
     (.need [a2_3 = (vget b1 b1_k).isSome]
       (.ask true
         (.need [v6.length ≤ 1000000]
           (.ask false
             .fail
             (.leaf .normal ⟨Za 21 [(0, .yld 6), (1, .ptr 5 0), (7, .coll ⟨.str, (Z29 (((vget b1 b1_k).getD default).nodes.map Prod.fst))⟩), (8, .int .i64 ((Z29 (((vget b1 b1_k).getD default).nodes.map Prod.fst)).length : Int)), (9, .int .i64 (IntKind.i64.wrap ((i : Int) + (1 : Int))))], [.dead, .vols b1 (some (2, b1_k)), .dead, .var 54 [] false ⟨.vol, b3⟩, .var 106 [.str a1, .int .i64 a2_0, .str a2_1, .int .u64 a2_2] false ⟨.str, (v6 ++ [((Z29 (((vget b1 b1_k).getD default).nodes.map Prod.fst)).getD i default)])⟩, .cells 89 [.mapq a2_3 1 2], .loop 1 (Za 41 [(6, .ptr 4 0)]) none]⟩ [])))
         .fail)))
   (.leaf (.exit 0) ⟨Za 21 [], [.dead, .vols b1 (some (2, b1_k)), .dead, .var 54 [] false ⟨.vol, b3⟩, .var 106 [.str a1, .int .i64 a2_0, .str a2_1, .int .u64 a2_2] false ⟨.str, v6⟩, .cells 89 [.mapq a2_3 1 2], .loop 1 (Za 41 [(6, .ptr 4 0)]) none]⟩ []))
def Z73 (a1 : BA) (a2_0 : Int) (a2_1 : BA) (a2_2 : Int) (a2_3 : Bool) (b1 : LB) (b1_k : BA) (b3 : LV) (i : Nat) (v6 : List BA) : Tree :=
 .leaf (.exit 0) ⟨Za 21 [], [.dead, .vols b1 (some (2, b1_k)), .dead, .var 54 [] false ⟨.vol, b3⟩, .var 106 [.str a1, .int .i64 a2_0, .str a2_1, .int .u64 a2_2] false ⟨.str, Z21 ((Z29 (((vget b1 b1_k).getD default).nodes.map Prod.fst)).drop i) v6⟩, .cells 89 [.mapq a2_3 1 2], .loop 1 (Za 41 [(6, .ptr 4 0)]) none]⟩
theorem Z178 (a1 : BA) (a2_0 : Int) (a2_1 : BA) (a2_2 : Int) (a2_3 : Bool) (b1 : LB) (b1_k : BA) (b3 : LV) (hp0 : a2_3 = true) (hp1 : (vget b1 b1_k).isSome = true) (hp2 : NK ((vget b1 b1_k).getD default).nodes) (hp3 : b3.length ≤ 1000000) (hlen : (Z29 (((vget b1 b1_k).getD default).nodes.map Prod.fst)).length < 4611686018427387904) (z : { z : Nat × List BA // z.1 ≤ (Z29 (((vget b1 b1_k).getD default).nodes.map Prod.fst)).length ∧ z.2.length ≤ z.1 }) (Q : Exit → St → Prop) (h : (Z73 a1 a2_0 a2_1 a2_2 a2_3 b1 b1_k b3 z.1.1 z.1.2).All Q) : Tr Tryz.prog 7 (.loop (Z47 Tryz.f77 0)) (Z94 a1 a2_0 a2_1 a2_2 a2_3 b1 b1_k b3 z.1.1 z.1.2) Q := by
 refine Z60 (kok _ _ _ _ _ _) (E := Z12e) (ι := { z : Nat × List BA // z.1 ≤ (Z29 (((vget b1 b1_k).getD default).nodes.map Prod.fst)).length ∧ z.2.length ≤ z.1 }) 60 0 (fun _ => Z32) (fun z => Z94 a1 a2_0 a2_1 a2_2 a2_3 b1 b1_k b3 z.1.1 z.1.2) (fun z => Z73 a1 a2_0 a2_1 a2_2 a2_3 b1 b1_k b3 z.1.1 z.1.2) (fun z => Zc9 a1 a2_0 a2_1 a2_2 a2_3 b1 b1_k b3 z.1.1 z.1.2) (fun z => (Z29 (((vget b1 b1_k).getD default).nodes.map Prod.fst)).length - z.1.1) (fun _ => Z14.none) (fun z => by obtain ⟨⟨i, v6⟩, hi⟩ := z; kernel_rfl) (fun z => by obtain ⟨⟨i, v6⟩, hi⟩ := z; kernel_rfl) (fun z => by obtain ⟨⟨i, v6⟩, hi⟩ := z; kernel_rfl) ?_ z Q h
 rintro ⟨⟨i, v6⟩, hi⟩ Q hT
 replace hT : (Z73 a1 a2_0 a2_1 a2_2 a2_3 b1 b1_k b3 i v6).All Q := hT
 replace hi : i ≤ (Z29 (((vget b1 b1_k).getD default).nodes.map Prod.fst)).length ∧ v6.length ≤ i := hi
 show (Zc9 a1 a2_0 a2_1 a2_2 a2_3 b1 b1_k b3 i v6).All _
 unfold Zc9
 refine ⟨fun h0 => ?_, fun h0 => ?_⟩
 · have hlt : i < (Z29 (((vget b1 b1_k).getD default).nodes.map Prod.fst)).length := by simpa using h0
   have hd := Z64 hlt
   have hw := Z4e (i := i) (by omega)
   refine ⟨Z2 (by first | assumption | omega | ((try intro _); (try simp only [decide_eq_true_eq, decide_eq_false_iff_not, Bool.cond_false_right, Bool.cond_true_right, Bool.cond_true_left, Bool.cond_false_left, Bool.and_eq_true, Bool.or_eq_true, Bool.not_eq_true', Z18, maxLen, List.length_cons, List.length_nil, List.length_append, Z44] at *); omega)) (Z9), ?_⟩
   refine ⟨Z2 (by rw [hp0, hp1]) (Z9), ?_⟩
   refine ⟨fun h1 => ?_, fun h1 => ?_⟩
   · refine ⟨Z2 (by (have q := Z211 hp2; omega)) (Z9), ?_⟩
     refine ⟨fun h2 => ?_, fun h2 => ?_⟩
     · exact absurd h2 (by simp)
     · have hF : Z21 ((Z29 (((vget b1 b1_k).getD default).nodes.map Prod.fst)).drop i) v6 = Z21 ((Z29 (((vget b1 b1_k).getD default).nodes.map Prod.fst)).drop (i + 1)) (v6 ++ [((Z29 (((vget b1 b1_k).getD default).nodes.map Prod.fst)).getD i default)]) := by rw [hd]; first | exact (Z12 h1 (Z3 h2 rfl)) | simp only [Z21, h0, h1, h2, cond_true, cond_false]
       refine ⟨⟨((i + 1), (v6 ++ [((Z29 (((vget b1 b1_k).getD default).nodes.map Prod.fst)).getD i default)])), by (first | dsimp only | skip); constructor <;> (try simp only [List.length_append, List.length_cons, List.length_nil]) <;> omega⟩, by show (Z29 (((vget b1 b1_k).getD default).nodes.map Prod.fst)).length - (i + 1) < (Z29 (((vget b1 b1_k).getD default).nodes.map Prod.fst)).length - i; omega, ?_, ?_⟩
       · show _ = Z94 a1 a2_0 a2_1 a2_2 a2_3 b1 b1_k b3 (i + 1) (v6 ++ [((Z29 (((vget b1 b1_k).getD default).nodes.map Prod.fst)).getD i default)])
         unfold Z94
         simp only [hw]
       · show (Z73 a1 a2_0 a2_1 a2_2 a2_3 b1 b1_k b3 (i + 1) (v6 ++ [((Z29 (((vget b1 b1_k).getD default).nodes.map Prod.fst)).getD i default)])).All Q
         unfold Z73 at hT ⊢
         rw [hF] at hT
         exact hT
   · exact absurd h1 (by simp)
 · have hge : ¬ i < (Z29 (((vget b1 b1_k).getD default).nodes.map Prod.fst)).length := by simpa using h0
   have hd : (Z29 (((vget b1 b1_k).getD default).nodes.map Prod.fst)).drop i = [] := List.drop_eq_nil_of_le (by omega)
   have hF : Z21 ((Z29 (((vget b1 b1_k).getD default).nodes.map Prod.fst)).drop i) v6 = v6 := by rw [hd]; first | exact rfl | simp only [Z21, h0, cond_true, cond_false]
   unfold Z73 at hT
   rw [hF] at hT
   exact hT
def Z14b (a1 : BA) (a2_0 : Int) (a2_1 : BA) (a2_2 : Int) (a2_3 : Bool) (b1 : LB) (b1_k : BA) (b3 : LV) : St :=
 ⟨Za 41 [(3, .ptr 3 0), (6, .ptr 4 0), (27, .fn 77 [.ptr 5 0])], [.dead, .vols b1 (some (2, b1_k)), .dead, .cells 54 [.vec 6], .cells 106 [.str a1, .int .i64 a2_0, .str a2_1, .int .u64 a2_2, .nils], .cells 89 [.mapq a2_3 1 2], .vec false ⟨.vol, b3⟩]⟩
def Z14c (a1 : BA) (a2_0 : Int) (a2_1 : BA) (a2_2 : Int) (a2_3 : Bool) (b1 : LB) (b1_k : BA) (b3 : LV) : RT :=
 (.need [(((vget b1 b1_k).getD default).nodes.map Prod.fst).length ≤ 1000000 ∧ ∀ k ∈ (((vget b1 b1_k).getD default).nodes.map Prod.fst), k.size ≤ maxLen, a2_3 = true ∧ (vget b1 b1_k).isSome = true]
   (.leaf .normal ⟨Za 21 [], [.dead, .vols b1 (some (2, b1_k)), .dead, .var 54 [] false ⟨.vol, b3⟩, .var 106 [.str a1, .int .i64 a2_0, .str a2_1, .int .u64 a2_2] false ⟨.str, Z21 (Z29 (((vget b1 b1_k).getD default).nodes.map Prod.fst)) []⟩, .cells 89 [.mapq a2_3 1 2], .loop 1 (Za 41 [(6, .ptr 4 0)]) none]⟩ []))
def Zde (a1 : BA) (a2_0 : Int) (a2_1 : BA) (a2_2 : Int) (a2_3 : Bool) (b1 : LB) (b1_k : BA) (b3 : LV) : Tree :=
 .leaf .normal ⟨Za 41 [(3, .ptr 3 0), (6, .ptr 4 0), (27, .fn 77 [.ptr 5 0])], [.dead, .vols b1 (some (2, b1_k)), .dead, .cells 54 [.vec 7], .cells 106 [.str a1, .int .i64 a2_0, .str a2_1, .int .u64 a2_2, .vec 8], .cells 89 [.mapq a2_3 1 2], .dead, .vec false ⟨.vol, b3⟩, .vec false ⟨.str, Z21 (Z29 (((vget b1 b1_k).getD default).nodes.map Prod.fst)) []⟩]⟩
theorem Z1ef (a1 : BA) (a2_0 : Int) (a2_1 : BA) (a2_2 : Int) (a2_3 : Bool) (b1 : LB) (b1_k : BA) (b3 : LV) (hp0 : a2_3 = true) (hp1 : (vget b1 b1_k).isSome = true) (hp2 : NK ((vget b1 b1_k).getD default).nodes) (hp3 : b3.length ≤ 1000000) (Q : Exit → St → Prop) (hT : (Zde a1 a2_0 a2_1 a2_2 a2_3 b1 b1_k b3).All Q) : Tr Tryz.prog 4 (rangeIn 0 0) (Z14b a1 a2_0 a2_1 a2_2 a2_3 b1 b1_k b3) Q := by
 have hc : rangeIn 0 0 = .rangeFunc (.tmp 27) (Globs.site 1).1 (Globs.site 1).2.1 (Globs.site 1).2.2 := by kernel_rfl
 rw [hc]
 refine Tr.pre (Turn.ownNil 4 4 7 .str rfl rfl (by simp)) ?_
 refine Tr.pre (Turn.fold 3 6 [] rfl rfl rfl) ?_
 refine Tr.pre (Turn.fold 4 7 [.str a1, .int .i64 a2_0, .str a2_1, .int .u64 a2_2] rfl rfl rfl) ?_
 refine Tr.pre (Turn.fits (p := ⟨Za 41 [(3, .ptr 3 0), (6, .ptr 4 0), (27, .fn 77 [.ptr 5 0])], [.dead, .vols b1 (some (2, b1_k)), .dead, .var 54 [] false ⟨.vol, b3⟩, .var 106 [.str a1, .int .i64 a2_0, .str a2_1, .int .u64 a2_2] false ⟨.str, []⟩, .cells 89 [.mapq a2_3 1 2]]⟩) [] (by kernel_rfl) (by kernel_rfl) (by kernel_rfl) (by kernel_rfl)) ?_
 refine Tr.post ?_
 refine Tr_range (site := 1) (gf := 77) (fn := Tryz.f77) (c := Z3c Tryz.f77) (cap := [.ptr 5 0]) 6 [6] (Za 41 [(6, .ptr 4 0)]) [.yld 6, .ptr 5 0] [.dead, .vols b1 (some (2, b1_k)), .dead, .var 54 [] false ⟨.vol, b3⟩, .var 106 [.str a1, .int .i64 a2_0, .str a2_1, .int .u64 a2_2] false ⟨.str, []⟩, .cells 89 [.mapq a2_3 1 2], .loop 1 (Za 41 [(6, .ptr 4 0)]) none] rfl (by kernel_rfl) (by kernel_rfl) rfl (by kernel_rfl) (by kernel_rfl) (by kernel_rfl) (by kernel_rfl) (by kernel_rfl) (by kernel_rfl) (by kernel_rfl) (by kernel_rfl) ?_
 refine Z2f (kok _ _ _ _ _ _) (E := Z12e) (L := (Z5f [(0, Z94 a1 a2_0 a2_1 a2_2 a2_3 b1 b1_k b3 0 [], [], Z73 a1 a2_0 a2_1 a2_2 a2_3 b1 b1_k b3 0 [])])) 60 9999 (Z14.one (g := Z47 Tryz.f77 0) (b := 0) (by kernel_rfl) (by kernel_rfl) (by kernel_rfl) (by kernel_rfl) (fun Q h => Z178 a1 a2_0 a2_1 a2_2 a2_3 b1 b1_k b3 hp0 hp1 hp2 hp3 (by (have q := Z211 hp2; omega)) ⟨(0, []), ⟨Nat.zero_le _, Nat.le_refl _⟩⟩ Q h)) (Z14c a1 a2_0 a2_1 a2_2 a2_3 b1 b1_k b3) (by kernel_rfl) (by kernel_rfl) (by kernel_rfl) ?_
 unfold Z14c
 refine ⟨Z2 (by exact hp2) (Z2 (by exact ⟨hp0, hp1⟩) (Z9)), ?_⟩
 unfold Zde at hT
 exact ⟨⟨trivial, .tup [], by kernel_rfl⟩, none, [.dead, .vols b1 (some (2, b1_k)), .dead, .var 54 [] false ⟨.vol, b3⟩, .var 106 [.str a1, .int .i64 a2_0, .str a2_1, .int .u64 a2_2] false ⟨.str, Z21 (Z29 (((vget b1 b1_k).getD default).nodes.map Prod.fst)) []⟩, .cells 89 [.mapq a2_3 1 2], .dead], by kernel_rfl, rfl, by kernel_rfl, by kernel_rfl, by kernel_rfl, by kernel_rfl, ⟨_, Turn.trans (Turn.unfold 3 7 rfl (by simp [hset, oM, oV])) (Turn.unfold 4 8 rfl (by simp [hset, oM, oV])), hT⟩⟩
noncomputable def Z1b3 : Env := Z65 (P := Tryz.prog) [box55_fact] [] [] ckf true
def Z1f1 (a1 : BA) (a2_0 : Int) (a2_1 : BA) (a2_2 : Int) (a2_3 : Bool) (b1 : LB) (b1_k : BA) (b3 : LV) : RT :=
 (.leaf .normal ⟨Za 41 [(3, .ptr 3 0), (4, .str a1), (5, .ptr 4 0)], [.dead, .vols b1 (some (2, b1_k)), .dead, .cells 54 [.vec 5], .cells 91 [.int .i64 a2_0, .str a2_1, .int .u64 a2_2, .mapq a2_3 1 2], .vec false ⟨.vol, b3⟩]⟩ [0, 1, 2, 3, 5, 4])
def Z1f0 (a1 : BA) (a2_0 : Int) (a2_1 : BA) (a2_2 : Int) (a2_3 : Bool) (b1 : LB) (b1_k : BA) (b3 : LV) : RT :=
 (.need [(b3.length + [(⟨a1, a2_0, a2_1, a2_2, Z21 (Z29 (((vget b1 b1_k).getD default).nodes.map Prod.fst)) []⟩ : XVol)].length) * 72 ≤ Z18 ∧ b3.length + [(⟨a1, a2_0, a2_1, a2_2, Z21 (Z29 (((vget b1 b1_k).getD default).nodes.map Prod.fst)) []⟩ : XVol)].length ≤ maxLen]
   (.leaf .normal ⟨Za 41 [], [.dead, .vols b1 (some (2, b1_k)), .dead, .cells 54 [.vec 4], .vec false ⟨.vol, (b3 ++ [(⟨a1, a2_0, a2_1, a2_2, Z21 (Z29 (((vget b1 b1_k).getD default).nodes.map Prod.fst)) []⟩ : XVol)])⟩]⟩ [0, 1, 2, 3, 10]))
theorem dD_Volumes_r_tr (a1 : BA) (a2_0 : Int) (a2_1 : BA) (a2_2 : Int) (a2_3 : Bool) (b1 : LB) (b1_k : BA) (b3 : LV) (hp0 : a2_3 = true) (hp1 : (vget b1 b1_k).isSome = true) (hp2 : NK ((vget b1 b1_k).getD default).nodes) (hp3 : b3.length ≤ 1000000) : Tr Tryz.prog 4 (Globs.site 0).2.1 ⟨Za 41 [(3, .ptr 3 0), (15, .str a1), (16, .agg [.int .i64 a2_0, .str a2_1, .int .u64 a2_2, .mapq a2_3 1 2])], .dead :: [.vols b1 (some (2, b1_k)), .dead, .var 54 [] false ⟨.vol, b3⟩]⟩ (fun e s1 => e = .normal ∧ Tr Tryz.prog 4 (Globs.site 0).2.2 s1 (rdEnds (true) .normal [.vols b1 (some (2, b1_k)), .dead, .var 54 [] false ⟨.vol, (b3 ++ [(⟨a1, a2_0, a2_1, a2_2, Z21 (Z29 (((vget b1 b1_k).getD default).nodes.map Prod.fst)) []⟩ : XVol)])⟩] .normal [.vols b1 (some (2, b1_k)), .dead, .var 54 [] false ⟨.vol, (b3 ++ [(⟨a1, a2_0, a2_1, a2_2, Z21 (Z29 (((vget b1 b1_k).getD default).nodes.map Prod.fst)) []⟩ : XVol)])⟩])) := by
 refine Tr.pre (Turn.unfold 3 4 rfl (by simp)) ?_
 refine Z2f (kok _ _ _ _ _ _) (E := Z1b3) (L := Z32) 60 9999 Z14.none (Z1f1 a1 a2_0 a2_1 a2_2 a2_3 b1 b1_k b3) (by kernel_rfl) (by kernel_rfl) (by kernel_rfl) ?_
 unfold Z1f1
 refine ⟨rfl, ?_⟩
 refine Tr.post ?_
 refine Z2f (kok _ _ _ _ _ _) (E := Z1b3) (L := (Z5f [(2, Z14b a1 a2_0 a2_1 a2_2 a2_3 b1 b1_k b3, [0, 1, 2, 3, 6, 7, 5], Zde a1 a2_0 a2_1 a2_2 a2_3 b1 b1_k b3)])) 60 9999 (Z14.oneR (g := rangeIn 0 0) (b := 2) (by kernel_rfl) (by kernel_rfl) (by kernel_rfl) (by kernel_rfl) (fun Q h => Z1ef a1 a2_0 a2_1 a2_2 a2_3 b1 b1_k b3 hp0 hp1 hp2 hp3 Q h)) (Z1f0 a1 a2_0 a2_1 a2_2 a2_3 b1 b1_k b3) (by kernel_rfl) (by kernel_rfl) (by kernel_rfl) ?_
 unfold Z1f0
 refine ⟨Z2 (by unfold Z18 maxLen; (try simp only [List.length_append, List.length_cons, List.length_nil]); omega) (Z9), ?_⟩
 exact ⟨_, Turn.fold 3 4 [] rfl rfl rfl, .inl ⟨rfl, rfl, by kernel_rfl⟩⟩
noncomputable def Z229 : FactY Tryz.prog := factY 0 [.c (.str), .agg [.int .i64, .str, .int .u64, .mapq 1 2]] (cpsOf 41 [(3, .ptr 3 0)]) [.volsA 2, .dead, .var 54 [] false .vol] (fun t u => true) .normal .normal none none (fun t u => [.vols u.2.1.1 (some (2, u.2.1.2.1)), .dead, .var 54 [] false ⟨.vol, (u.2.2.2.1.1 ++ [(⟨t.2.1, t.2.2.1.1, t.2.2.1.2.1, t.2.2.1.2.2.1, Z21 (Z29 (((vget u.2.1.1 u.2.1.2.1).getD default).nodes.map Prod.fst)) []⟩ : XVol)])⟩]) (fun t u => [.vols u.2.1.1 (some (2, u.2.1.2.1)), .dead, .var 54 [] false ⟨.vol, (u.2.2.2.1.1 ++ [(⟨t.2.1, t.2.2.1.1, t.2.2.1.2.1, t.2.2.1.2.2.1, Z21 (Z29 (((vget u.2.1.1 u.2.1.2.1).getD default).nodes.map Prod.fst)) []⟩ : XVol)])⟩]) (fun t u => [t.2.2.1.2.2.2.1 = true, (vget u.2.1.1 u.2.1.2.1).isSome = true, NK ((vget u.2.1.1 u.2.1.2.1).getD default).nodes, u.2.2.2.1.1.length ≤ 1000000]) rfl rfl
 (fun t u => by kernel_rfl) (fun t => by kernel_rfl) (fun t u => by kernel_rfl) (fun t u => by kernel_rfl) (fun t u => by kernel_rfl) (fun t u => Za 41 [(3, .ptr 3 0), (15, .str t.2.1), (16, .agg [.int .i64 t.2.2.1.1, .str t.2.2.1.2.1, .int .u64 t.2.2.1.2.2.1, .mapq t.2.2.1.2.2.2.1 1 2])]) (fun t u => by kernel_rfl) (fun t u h => dD_Volumes_r_tr t.2.1 t.2.2.1.1 t.2.2.1.2.1 t.2.2.1.2.2.1 t.2.2.1.2.2.2.1 u.2.1.1 u.2.1.2.1 u.2.2.2.1.1 (h _ mS) (h _ (mN mS)) (h _ (mN (mN mS))) (h _ (mN (mN (mN mS)))))
noncomputable def Z188 : Env := Z65 (P := Tryz.prog) [box84_fact, sorted103_fact] [] [] ckf false [Z229]
def Z43 (b2 : LB) : List BA → LV → LV
 | [], v7 => v7
 | o :: r, v7 => Z43 b2 r (v7 ++ [(⟨o, (((vget b2 o).getD default).size), (((vget b2 o).getD default).zone), (((vget b2 o).getD default).tag), Z21 (Z29 (((vget b2 o).getD default).nodes.map Prod.fst)) []⟩ : XVol)])
def Za2 (b1 : LA) (b2 : LB) (b3 : LC) (b4 : LD) (i : Nat) (v7 : LV) : St :=
 ⟨Za 21 [(0, .yld 7), (1, .ptr 6 0), (7, .coll ⟨.str, (Z29 (b2.map Prod.fst))⟩), (8, .int .i64 ((Z29 (b2.map Prod.fst)).length : Int)), (9, .int .i64 (i : Int))], (.cells 87 [.map 1, .map 2, .map 3, .map 4] :: oM b1 b2 b3 b4 [.var 54 [] false ⟨.vol, v7⟩, .cells 83 [.map 2], .loop 0 (Za 41 [(3, .ptr 5 0)]) none])⟩
def Zf5 (b1 : LA) (b2 : LB) (b3 : LC) (b4 : LD) (i : Nat) (v7 : LV) : RT :=
 (.ask (decide ((i : Int) < ((Z29 (b2.map Prod.fst)).length : Int)))
   (.need [0 ≤ (i : Int) ∧ (i : Int) < ((Z29 (b2.map Prod.fst)).length : Int)]
     (.ask true
       (.need [((vget b2 ((Z29 (b2.map Prod.fst)).getD i default)).isSome) = true, (vget b2 ((Z29 (b2.map Prod.fst)).getD i default)).isSome = true, NK ((vget b2 ((Z29 (b2.map Prod.fst)).getD i default)).getD default).nodes, v7.length ≤ 1000000]
         (.ask false
           .fail
           (.leaf .normal ⟨Za 21 [(0, .yld 7), (1, .ptr 6 0), (7, .coll ⟨.str, (Z29 (b2.map Prod.fst))⟩), (8, .int .i64 ((Z29 (b2.map Prod.fst)).length : Int)), (9, .int .i64 (IntKind.i64.wrap ((i : Int) + (1 : Int))))], (.cells 87 [.map 1, .map 2, .map 3, .map 4] :: oM b1 b2 b3 b4 [.var 54 [] false ⟨.vol, (v7 ++ [(⟨((Z29 (b2.map Prod.fst)).getD i default), (((vget b2 ((Z29 (b2.map Prod.fst)).getD i default)).getD default).size), (((vget b2 ((Z29 (b2.map Prod.fst)).getD i default)).getD default).zone), (((vget b2 ((Z29 (b2.map Prod.fst)).getD i default)).getD default).tag), Z21 (Z29 (((vget b2 ((Z29 (b2.map Prod.fst)).getD i default)).getD default).nodes.map Prod.fst)) []⟩ : XVol)])⟩, .cells 83 [.map 2], .loop 0 (Za 41 [(3, .ptr 5 0)]) none])⟩ [])))
       .fail))
   (.leaf (.exit 0) ⟨Za 21 [], (.cells 87 [.map 1, .map 2, .map 3, .map 4] :: oM b1 b2 b3 b4 [.var 54 [] false ⟨.vol, v7⟩, .cells 83 [.map 2], .loop 0 (Za 41 [(3, .ptr 5 0)]) none])⟩ []))
def Z84 (b1 : LA) (b2 : LB) (b3 : LC) (b4 : LD) (i : Nat) (v7 : LV) : Tree :=
 .leaf (.exit 0) ⟨Za 21 [], (.cells 87 [.map 1, .map 2, .map 3, .map 4] :: oM b1 b2 b3 b4 [.var 54 [] false ⟨.vol, Z43 b2 ((Z29 (b2.map Prod.fst)).drop i) v7⟩, .cells 83 [.map 2], .loop 0 (Za 41 [(3, .ptr 5 0)]) none])⟩
theorem Z1c7 (b1 : LA) (b2 : LB) (b3 : LC) (b4 : LD) (hp0 : VB b2) (hlen : (Z29 (b2.map Prod.fst)).length < 4611686018427387904) (z : { z : Nat × LV // z.1 ≤ (Z29 (b2.map Prod.fst)).length ∧ z.2.length ≤ z.1 }) (Q : Exit → St → Prop) (h : (Z84 b1 b2 b3 b4 z.1.1 z.1.2).All Q) : Tr Tryz.prog 8 (.loop (Z47 Tryz.f74 0)) (Za2 b1 b2 b3 b4 z.1.1 z.1.2) Q := by
 refine Z60 (kok _ _ _ _ _ _) (E := Z188) (ι := { z : Nat × LV // z.1 ≤ (Z29 (b2.map Prod.fst)).length ∧ z.2.length ≤ z.1 }) 60 0 (fun _ => Z32) (fun z => Za2 b1 b2 b3 b4 z.1.1 z.1.2) (fun z => Z84 b1 b2 b3 b4 z.1.1 z.1.2) (fun z => Zf5 b1 b2 b3 b4 z.1.1 z.1.2) (fun z => (Z29 (b2.map Prod.fst)).length - z.1.1) (fun _ => Z14.none) (fun z => by obtain ⟨⟨i, v7⟩, hi⟩ := z; kernel_rfl) (fun z => by obtain ⟨⟨i, v7⟩, hi⟩ := z; kernel_rfl) (fun z => by obtain ⟨⟨i, v7⟩, hi⟩ := z; kernel_rfl) ?_ z Q h
 rintro ⟨⟨i, v7⟩, hi⟩ Q hT
 replace hT : (Z84 b1 b2 b3 b4 i v7).All Q := hT
 replace hi : i ≤ (Z29 (b2.map Prod.fst)).length ∧ v7.length ≤ i := hi
 show (Zf5 b1 b2 b3 b4 i v7).All _
 unfold Zf5
 refine ⟨fun h0 => ?_, fun h0 => ?_⟩
 · have hlt : i < (Z29 (b2.map Prod.fst)).length := by simpa using h0
   have hd := Z64 hlt
   have hw := Z4e (i := i) (by omega)
   refine ⟨Z2 (by first | assumption | omega | ((try intro _); (try simp only [decide_eq_true_eq, decide_eq_false_iff_not, Bool.cond_false_right, Bool.cond_true_right, Bool.cond_true_left, Bool.cond_false_left, Bool.and_eq_true, Bool.or_eq_true, Bool.not_eq_true', Z18, maxLen, List.length_cons, List.length_nil, List.length_append, Z44] at *); omega)) (Z9), ?_⟩
   refine ⟨fun h1 => ?_, fun h1 => ?_⟩
   · refine ⟨(by (iterate 2 refine Z2 (by exact vb_some hlt) ?_); refine Z2 (by exact vb_nk hp0 _) ?_; refine Z2 (by (have q := Z211 hp0.1; omega)) ?_; exact Z9), ?_⟩
     refine ⟨fun h2 => ?_, fun h2 => ?_⟩
     · exact absurd h2 (by simp)
     · have hF : Z43 b2 ((Z29 (b2.map Prod.fst)).drop i) v7 = Z43 b2 ((Z29 (b2.map Prod.fst)).drop (i + 1)) (v7 ++ [(⟨((Z29 (b2.map Prod.fst)).getD i default), (((vget b2 ((Z29 (b2.map Prod.fst)).getD i default)).getD default).size), (((vget b2 ((Z29 (b2.map Prod.fst)).getD i default)).getD default).zone), (((vget b2 ((Z29 (b2.map Prod.fst)).getD i default)).getD default).tag), Z21 (Z29 (((vget b2 ((Z29 (b2.map Prod.fst)).getD i default)).getD default).nodes.map Prod.fst)) []⟩ : XVol)]) := by rw [hd]; first | exact (Z12 h1 (Z3 h2 rfl)) | simp only [Z43, h0, h1, h2, cond_true, cond_false]
       refine ⟨⟨((i + 1), (v7 ++ [(⟨((Z29 (b2.map Prod.fst)).getD i default), (((vget b2 ((Z29 (b2.map Prod.fst)).getD i default)).getD default).size), (((vget b2 ((Z29 (b2.map Prod.fst)).getD i default)).getD default).zone), (((vget b2 ((Z29 (b2.map Prod.fst)).getD i default)).getD default).tag), Z21 (Z29 (((vget b2 ((Z29 (b2.map Prod.fst)).getD i default)).getD default).nodes.map Prod.fst)) []⟩ : XVol)])), by (first | dsimp only | skip); constructor <;> (try simp only [List.length_append, List.length_cons, List.length_nil]) <;> omega⟩, by show (Z29 (b2.map Prod.fst)).length - (i + 1) < (Z29 (b2.map Prod.fst)).length - i; omega, ?_, ?_⟩
       · show _ = Za2 b1 b2 b3 b4 (i + 1) (v7 ++ [(⟨((Z29 (b2.map Prod.fst)).getD i default), (((vget b2 ((Z29 (b2.map Prod.fst)).getD i default)).getD default).size), (((vget b2 ((Z29 (b2.map Prod.fst)).getD i default)).getD default).zone), (((vget b2 ((Z29 (b2.map Prod.fst)).getD i default)).getD default).tag), Z21 (Z29 (((vget b2 ((Z29 (b2.map Prod.fst)).getD i default)).getD default).nodes.map Prod.fst)) []⟩ : XVol)])
         unfold Za2
         simp only [hw]
       · show (Z84 b1 b2 b3 b4 (i + 1) (v7 ++ [(⟨((Z29 (b2.map Prod.fst)).getD i default), (((vget b2 ((Z29 (b2.map Prod.fst)).getD i default)).getD default).size), (((vget b2 ((Z29 (b2.map Prod.fst)).getD i default)).getD default).zone), (((vget b2 ((Z29 (b2.map Prod.fst)).getD i default)).getD default).tag), Z21 (Z29 (((vget b2 ((Z29 (b2.map Prod.fst)).getD i default)).getD default).nodes.map Prod.fst)) []⟩ : XVol)])).All Q
         unfold Z84 at hT ⊢
         rw [hF] at hT
         exact hT
   · exact absurd h1 (by simp)
 · have hge : ¬ i < (Z29 (b2.map Prod.fst)).length := by simpa using h0
   have hd : (Z29 (b2.map Prod.fst)).drop i = [] := List.drop_eq_nil_of_le (by omega)
   have hF : Z43 b2 ((Z29 (b2.map Prod.fst)).drop i) v7 = v7 := by rw [hd]; first | exact rfl | simp only [Z43, h0, cond_true, cond_false]
   unfold Z84 at hT
   rw [hF] at hT
   exact hT
def Z1af (b1 : LA) (b2 : LB) (b3 : LC) (b4 : LD) : St :=
 ⟨Za 41 [(3, .ptr 5 0), (14, .fn 74 [.ptr 6 0])], (.cells 87 [.map 1, .map 2, .map 3, .map 4] :: oM b1 b2 b3 b4 [.cells 54 [.vec 7], .cells 83 [.map 2], .vec false ⟨.vol, []⟩])⟩
def Z1b0 (b1 : LA) (b2 : LB) (b3 : LC) (b4 : LD) : RT :=
 (.need [(b2.map Prod.fst).length ≤ 1000000 ∧ ∀ k ∈ (b2.map Prod.fst), k.size ≤ maxLen]
   (.leaf .normal ⟨Za 21 [], (.cells 87 [.map 1, .map 2, .map 3, .map 4] :: oM b1 b2 b3 b4 [.var 54 [] false ⟨.vol, Z43 b2 (Z29 (b2.map Prod.fst)) []⟩, .cells 83 [.map 2], .loop 0 (Za 41 [(3, .ptr 5 0)]) none])⟩ []))
def Z111 (b1 : LA) (b2 : LB) (b3 : LC) (b4 : LD) : Tree :=
 .leaf .normal ⟨Za 41 [(3, .ptr 5 0), (14, .fn 74 [.ptr 6 0])], (.cells 87 [.map 1, .map 2, .map 3, .map 4] :: oM b1 b2 b3 b4 [.cells 54 [.vec 8], .cells 83 [.map 2], .dead, .vec false ⟨.vol, Z43 b2 (Z29 (b2.map Prod.fst)) []⟩])⟩
theorem Z250 (b1 : LA) (b2 : LB) (b3 : LC) (b4 : LD) (hp0 : VB b2) (Q : Exit → St → Prop) (hT : (Z111 b1 b2 b3 b4).All Q) : Tr Tryz.prog 5 (Z47 Tryz.f42 0) (Z1af b1 b2 b3 b4) Q := by
 have hc : Z47 Tryz.f42 0 = .rangeFunc (.tmp 14) (Globs.site 0).1 (Globs.site 0).2.1 (Globs.site 0).2.2 := by kernel_rfl
 rw [hc]
 refine Tr.pre (Turn.fold 5 7 [] rfl rfl rfl) ?_
 refine Tr.pre (Turn.fits (p := ⟨Za 41 [(3, .ptr 5 0), (14, .fn 74 [.ptr 6 0])], (.cells 87 [.map 1, .map 2, .map 3, .map 4] :: oM b1 b2 b3 b4 [.var 54 [] false ⟨.vol, []⟩, .cells 83 [.map 2]])⟩) [] (by kernel_rfl) (by kernel_rfl) (by kernel_rfl) (by kernel_rfl)) ?_
 refine Tr.post ?_
 refine Tr_range (site := 0) (gf := 74) (fn := Tryz.f74) (c := Z3c Tryz.f74) (cap := [.ptr 6 0]) 7 [3] (Za 41 [(3, .ptr 5 0)]) [.yld 7, .ptr 6 0] (.cells 87 [.map 1, .map 2, .map 3, .map 4] :: oM b1 b2 b3 b4 [.var 54 [] false ⟨.vol, []⟩, .cells 83 [.map 2], .loop 0 (Za 41 [(3, .ptr 5 0)]) none]) rfl (by kernel_rfl) (by kernel_rfl) rfl (by kernel_rfl) (by kernel_rfl) (by kernel_rfl) (by kernel_rfl) (by kernel_rfl) (by kernel_rfl) (by kernel_rfl) (by kernel_rfl) ?_
 refine Z2f (kok _ _ _ _ _ _) (E := Z188) (L := (Z5f [(0, Za2 b1 b2 b3 b4 0 [], [], Z84 b1 b2 b3 b4 0 [])])) 60 9999 (Z14.one (g := Z47 Tryz.f74 0) (b := 0) (by kernel_rfl) (by kernel_rfl) (by kernel_rfl) (by kernel_rfl) (fun Q h => Z1c7 b1 b2 b3 b4 hp0 (by (have q := Z211 hp0.1; omega)) ⟨(0, []), ⟨Nat.zero_le _, Nat.le_refl _⟩⟩ Q h)) (Z1b0 b1 b2 b3 b4) (by kernel_rfl) (by kernel_rfl) (by kernel_rfl) ?_
 unfold Z1b0
 refine ⟨Z2 (by exact hp0.1) (Z9), ?_⟩
 unfold Z111 at hT
 exact ⟨⟨trivial, .tup [], by kernel_rfl⟩, none, (.cells 87 [.map 1, .map 2, .map 3, .map 4] :: oM b1 b2 b3 b4 [.var 54 [] false ⟨.vol, Z43 b2 (Z29 (b2.map Prod.fst)) []⟩, .cells 83 [.map 2], .dead]), by kernel_rfl, rfl, by kernel_rfl, by kernel_rfl, by kernel_rfl, by kernel_rfl, ⟨_, Turn.unfold 5 8 rfl (by simp [hset, oM, oV]), hT⟩⟩
noncomputable def E_dD_Volumes : Env := Z65 (P := Tryz.prog) [box54_fact] [] [] ckf true
def Z61 (b1 : LA) (b2 : LB) (b3 : LC) (b4 : LD) : LV :=
 Z43 b2 (Z29 (b2.map Prod.fst)) []
def dD_VolumesR (b1 : LA) (b2 : LB) (b3 : LC) (b4 : LD) : RT :=
 (.ask false
   .fail
   (.leaf .ret ⟨Za 41 [(2, .vec 5)], (.cells 87 [.map 1, .map 2, .map 3, .map 4] :: oM b1 b2 b3 b4 [.vec false ⟨.vol, Z43 b2 (Z29 (b2.map Prod.fst)) []⟩])⟩ [0, 1, 2, 3, 4, 8]))
theorem dD_VolumesF_tr (b1 : LA) (b2 : LB) (b3 : LC) (b4 : LD) (hp0 : VB b2) : Tr Tryz.prog 5 (Z3c Tryz.f42) (Z27 Tryz.f42 [.ptr 0 0] (.cells 87 [.map 1, .map 2, .map 3, .map 4] :: oM b1 b2 b3 b4 [])) (Z48 Tryz.prog Tryz.f42 (.coll ⟨.vol, Z61 b1 b2 b3 b4⟩) (.cells 87 [.map 1, .map 2, .map 3, .map 4] :: oM b1 b2 b3 b4 [])) := by
 refine Tr.post ?_
 refine Z2f (kok _ _ _ _ _ _) (E := E_dD_Volumes) (L := (Z5f [(0, Z1af b1 b2 b3 b4, [0, 1, 2, 3, 4, 6, 8, 7], Z111 b1 b2 b3 b4)])) 60 9999 (Z14.oneR (g := Z47 Tryz.f42 0) (b := 0) (by kernel_rfl) (by kernel_rfl) (by kernel_rfl) (by kernel_rfl) (fun Q h => Z250 b1 b2 b3 b4 hp0 Q h)) (dD_VolumesR b1 b2 b3 b4) (by kernel_rfl) (by kernel_rfl) (by kernel_rfl) ?_
 unfold dD_VolumesR
 refine ⟨fun h0 => ?_, fun h0 => ?_⟩
 · exact absurd h0 (by simp)
 · have hF : Z61 b1 b2 b3 b4 = (Z43 b2 (Z29 (b2.map Prod.fst)) []) := by first | exact rfl | simp only [Z61, h0, cond_true, cond_false]
   exact ⟨_, Turn.frz 5 rfl, trivial, .inr (by (try rw [hF]); kernel_rfl), by (try rw [hF]); kernel_rfl⟩
noncomputable def dD_Volumes_fact : Fact Tryz.prog := Z4b 42 Tryz.f42 (by kernel_rfl) rfl (by kernel_rfl) [.c (.ptr 0 0)] [.cells 87 [.map 1, .map 2, .map 3, .map 4], .map .str (.int .i64), .vols, .map .str .sn, .map .tgt .done] true (fun t u => .coll ⟨.vol, Z61 u.2.1 u.2.2.1 u.2.2.2.1 u.2.2.2.2.1⟩) (fun t u => HPL.enc _ u) (fun t u => [VB u.2.2.1])
 (fun _ _ _ => rfl) (fun t u => by kernel_rfl) (fun t u => by kernel_rfl) (fun t u h => dD_VolumesF_tr u.2.1 u.2.2.1 u.2.2.2.1 u.2.2.2.2.1 (h _ mS))
noncomputable def Z243 : Env := Z65 (P := Tryz.prog) [] [] [] ckf true
def dD_Snaps_rQ (a1 : BA) (a2 : XSn) (b1 : LS) : RT :=
 (.leaf .normal ⟨Za 25 [(3, .ptr 1 0), (4, .str a1), (5, .ptr 2 0)], [.dead, .cells 68 [.vec 3], .cells 94 [.int .i64 a2.size, .int .u64 a2.tag], .vec false ⟨.snap, b1⟩]⟩ [0, 1, 3, 2])
def dD_Snaps_rR (a1 : BA) (a2 : XSn) (b1 : LS) : RT :=
 (.need [(b1.length + [(⟨a1, a2.size, a2.tag⟩ : XSnap)].length) * 32 ≤ Z18 ∧ b1.length + [(⟨a1, a2.size, a2.tag⟩ : XSnap)].length ≤ maxLen]
   (.leaf .normal ⟨Za 25 [], [.dead, .cells 68 [.vec 2], .vec false ⟨.snap, (b1 ++ [(⟨a1, a2.size, a2.tag⟩ : XSnap)])⟩]⟩ [0, 1, 5]))
theorem dD_Snaps_r_tr (a1 : BA) (a2 : XSn) (b1 : LS) (hp0 : b1.length ≤ 1000000) : Tr Tryz.prog 2 (Globs.site 2).2.1 ⟨Za 25 [(3, .ptr 1 0), (13, .str a1), (14, .agg [.int .i64 a2.size, .int .u64 a2.tag])], .dead :: [.var 68 [] false ⟨.snap, b1⟩]⟩ (fun e s1 => e = .normal ∧ Tr Tryz.prog 2 (Globs.site 2).2.2 s1 (rdEnds (true) .normal [.var 68 [] false ⟨.snap, (b1 ++ [(⟨a1, a2.size, a2.tag⟩ : XSnap)])⟩] .normal [.var 68 [] false ⟨.snap, (b1 ++ [(⟨a1, a2.size, a2.tag⟩ : XSnap)])⟩])) := by
 refine Tr.pre (Turn.unfold 1 2 rfl (by simp)) ?_
 refine Z2f (kok _ _ _ _ _ _) (E := Z243) (L := Z32) 60 9999 Z14.none (dD_Snaps_rQ a1 a2 b1) (by kernel_rfl) (by kernel_rfl) (by kernel_rfl) ?_
 unfold dD_Snaps_rQ
 refine ⟨rfl, ?_⟩
 refine Tr.post ?_
 refine Z2f (kok _ _ _ _ _ _) (E := Z243) (L := Z32) 60 9999 Z14.none (dD_Snaps_rR a1 a2 b1) (by kernel_rfl) (by kernel_rfl) (by kernel_rfl) ?_
 unfold dD_Snaps_rR
 refine ⟨Z2 (by unfold Z18 maxLen; (try simp only [List.length_append, List.length_cons, List.length_nil]); omega) (Z9), ?_⟩
 exact ⟨_, Turn.fold 1 2 [] rfl rfl rfl, .inl ⟨rfl, rfl, by kernel_rfl⟩⟩
noncomputable def dD_Snaps_r_fact : FactY Tryz.prog := factY 2 [.c (.str), .st .sn] (cpsOf 25 [(3, .ptr 1 0)]) [.var 68 [] false .snap] (fun t u => true) .normal .normal none none (fun t u => [.var 68 [] false ⟨.snap, (u.2.1.1 ++ [(⟨t.2.1, t.2.2.1.size, t.2.2.1.tag⟩ : XSnap)])⟩]) (fun t u => [.var 68 [] false ⟨.snap, (u.2.1.1 ++ [(⟨t.2.1, t.2.2.1.size, t.2.2.1.tag⟩ : XSnap)])⟩]) (fun t u => [u.2.1.1.length ≤ 1000000]) rfl rfl
 (fun t u => by kernel_rfl) (fun t => by kernel_rfl) (fun t u => by kernel_rfl) (fun t u => by kernel_rfl) (fun t u => by kernel_rfl) (fun t u => Za 25 [(3, .ptr 1 0), (13, .str t.2.1), (14, .agg [.int .i64 t.2.2.1.size, .int .u64 t.2.2.1.tag])]) (fun t u => by kernel_rfl) (fun t u h => dD_Snaps_r_tr t.2.1 t.2.2.1 u.2.1.1 (h _ mS))
noncomputable def Z200 : Env := Z65 (P := Tryz.prog) [box88_fact, sorted105_fact] [] [] ckf false [dD_Snaps_r_fact]
def Z4d (b3 : LC) : List BA → LS → LS
 | [], v7 => v7
 | o :: r, v7 => Z4d b3 r (v7 ++ [(⟨o, ((mget (k := .str) (v := .sn) b3 o).getD default).size, ((mget (k := .str) (v := .sn) b3 o).getD default).tag⟩ : XSnap)])
def Zc1 (b1 : LA) (b2 : LB) (b3 : LC) (b4 : LD) (i : Nat) (v7 : LS) : St :=
 ⟨Za 21 [(0, .yld 7), (1, .ptr 6 0), (7, .coll ⟨.str, (Z29 (b3.map Prod.fst))⟩), (8, .int .i64 ((Z29 (b3.map Prod.fst)).length : Int)), (9, .int .i64 (i : Int))], (.cells 87 [.map 1, .map 2, .map 3, .map 4] :: oM b1 b2 b3 b4 [.var 68 [] false ⟨.snap, v7⟩, .cells 84 [.map 3], .loop 2 (Za 25 [(3, .ptr 5 0)]) none])⟩
def Z140 (b1 : LA) (b2 : LB) (b3 : LC) (b4 : LD) (i : Nat) (v7 : LS) : RT :=
 (.ask (decide ((i : Int) < ((Z29 (b3.map Prod.fst)).length : Int)))
   (.need [0 ≤ (i : Int) ∧ (i : Int) < ((Z29 (b3.map Prod.fst)).length : Int)]
     (.ask true
       (.need [v7.length ≤ 1000000]
         (.ask false
           .fail
           (.leaf .normal ⟨Za 21 [(0, .yld 7), (1, .ptr 6 0), (7, .coll ⟨.str, (Z29 (b3.map Prod.fst))⟩), (8, .int .i64 ((Z29 (b3.map Prod.fst)).length : Int)), (9, .int .i64 (IntKind.i64.wrap ((i : Int) + (1 : Int))))], (.cells 87 [.map 1, .map 2, .map 3, .map 4] :: oM b1 b2 b3 b4 [.var 68 [] false ⟨.snap, (v7 ++ [(⟨((Z29 (b3.map Prod.fst)).getD i default), ((mget (k := .str) (v := .sn) b3 ((Z29 (b3.map Prod.fst)).getD i default)).getD default).size, ((mget (k := .str) (v := .sn) b3 ((Z29 (b3.map Prod.fst)).getD i default)).getD default).tag⟩ : XSnap)])⟩, .cells 84 [.map 3], .loop 2 (Za 25 [(3, .ptr 5 0)]) none])⟩ [])))
       .fail))
   (.leaf (.exit 0) ⟨Za 21 [], (.cells 87 [.map 1, .map 2, .map 3, .map 4] :: oM b1 b2 b3 b4 [.var 68 [] false ⟨.snap, v7⟩, .cells 84 [.map 3], .loop 2 (Za 25 [(3, .ptr 5 0)]) none])⟩ []))
def Z99 (b1 : LA) (b2 : LB) (b3 : LC) (b4 : LD) (i : Nat) (v7 : LS) : Tree :=
 .leaf (.exit 0) ⟨Za 21 [], (.cells 87 [.map 1, .map 2, .map 3, .map 4] :: oM b1 b2 b3 b4 [.var 68 [] false ⟨.snap, Z4d b3 ((Z29 (b3.map Prod.fst)).drop i) v7⟩, .cells 84 [.map 3], .loop 2 (Za 25 [(3, .ptr 5 0)]) none])⟩
theorem Z22a (b1 : LA) (b2 : LB) (b3 : LC) (b4 : LD) (hp0 : NK b3) (hlen : (Z29 (b3.map Prod.fst)).length < 4611686018427387904) (z : { z : Nat × LS // z.1 ≤ (Z29 (b3.map Prod.fst)).length ∧ z.2.length ≤ z.1 }) (Q : Exit → St → Prop) (h : (Z99 b1 b2 b3 b4 z.1.1 z.1.2).All Q) : Tr Tryz.prog 8 (.loop (Z47 Tryz.f80 0)) (Zc1 b1 b2 b3 b4 z.1.1 z.1.2) Q := by
 refine Z60 (kok _ _ _ _ _ _) (E := Z200) (ι := { z : Nat × LS // z.1 ≤ (Z29 (b3.map Prod.fst)).length ∧ z.2.length ≤ z.1 }) 60 0 (fun _ => Z32) (fun z => Zc1 b1 b2 b3 b4 z.1.1 z.1.2) (fun z => Z99 b1 b2 b3 b4 z.1.1 z.1.2) (fun z => Z140 b1 b2 b3 b4 z.1.1 z.1.2) (fun z => (Z29 (b3.map Prod.fst)).length - z.1.1) (fun _ => Z14.none) (fun z => by obtain ⟨⟨i, v7⟩, hi⟩ := z; kernel_rfl) (fun z => by obtain ⟨⟨i, v7⟩, hi⟩ := z; kernel_rfl) (fun z => by obtain ⟨⟨i, v7⟩, hi⟩ := z; kernel_rfl) ?_ z Q h
 rintro ⟨⟨i, v7⟩, hi⟩ Q hT
 replace hT : (Z99 b1 b2 b3 b4 i v7).All Q := hT
 replace hi : i ≤ (Z29 (b3.map Prod.fst)).length ∧ v7.length ≤ i := hi
 show (Z140 b1 b2 b3 b4 i v7).All _
 unfold Z140
 refine ⟨fun h0 => ?_, fun h0 => ?_⟩
 · have hlt : i < (Z29 (b3.map Prod.fst)).length := by simpa using h0
   have hd := Z64 hlt
   have hw := Z4e (i := i) (by omega)
   refine ⟨Z2 (by first | assumption | omega | ((try intro _); (try simp only [decide_eq_true_eq, decide_eq_false_iff_not, Bool.cond_false_right, Bool.cond_true_right, Bool.cond_true_left, Bool.cond_false_left, Bool.and_eq_true, Bool.or_eq_true, Bool.not_eq_true', Z18, maxLen, List.length_cons, List.length_nil, List.length_append, Z44] at *); omega)) (Z9), ?_⟩
   refine ⟨fun h1 => ?_, fun h1 => ?_⟩
   · refine ⟨Z2 (by (have q := Z211 hp0; omega)) (Z9), ?_⟩
     refine ⟨fun h2 => ?_, fun h2 => ?_⟩
     · exact absurd h2 (by simp)
     · have hF : Z4d b3 ((Z29 (b3.map Prod.fst)).drop i) v7 = Z4d b3 ((Z29 (b3.map Prod.fst)).drop (i + 1)) (v7 ++ [(⟨((Z29 (b3.map Prod.fst)).getD i default), ((mget (k := .str) (v := .sn) b3 ((Z29 (b3.map Prod.fst)).getD i default)).getD default).size, ((mget (k := .str) (v := .sn) b3 ((Z29 (b3.map Prod.fst)).getD i default)).getD default).tag⟩ : XSnap)]) := by rw [hd]; first | exact (Z12 h1 (Z3 h2 rfl)) | simp only [Z4d, h0, h1, h2, cond_true, cond_false]
       refine ⟨⟨((i + 1), (v7 ++ [(⟨((Z29 (b3.map Prod.fst)).getD i default), ((mget (k := .str) (v := .sn) b3 ((Z29 (b3.map Prod.fst)).getD i default)).getD default).size, ((mget (k := .str) (v := .sn) b3 ((Z29 (b3.map Prod.fst)).getD i default)).getD default).tag⟩ : XSnap)])), by (first | dsimp only | skip); constructor <;> (try simp only [List.length_append, List.length_cons, List.length_nil]) <;> omega⟩, by show (Z29 (b3.map Prod.fst)).length - (i + 1) < (Z29 (b3.map Prod.fst)).length - i; omega, ?_, ?_⟩
       · show _ = Zc1 b1 b2 b3 b4 (i + 1) (v7 ++ [(⟨((Z29 (b3.map Prod.fst)).getD i default), ((mget (k := .str) (v := .sn) b3 ((Z29 (b3.map Prod.fst)).getD i default)).getD default).size, ((mget (k := .str) (v := .sn) b3 ((Z29 (b3.map Prod.fst)).getD i default)).getD default).tag⟩ : XSnap)])
         unfold Zc1
         simp only [hw]
       · show (Z99 b1 b2 b3 b4 (i + 1) (v7 ++ [(⟨((Z29 (b3.map Prod.fst)).getD i default), ((mget (k := .str) (v := .sn) b3 ((Z29 (b3.map Prod.fst)).getD i default)).getD default).size, ((mget (k := .str) (v := .sn) b3 ((Z29 (b3.map Prod.fst)).getD i default)).getD default).tag⟩ : XSnap)])).All Q
         unfold Z99 at hT ⊢
         rw [hF] at hT
         exact hT
   · exact absurd h1 (by simp)
 · have hge : ¬ i < (Z29 (b3.map Prod.fst)).length := by simpa using h0
   have hd : (Z29 (b3.map Prod.fst)).drop i = [] := List.drop_eq_nil_of_le (by omega)
   have hF : Z4d b3 ((Z29 (b3.map Prod.fst)).drop i) v7 = v7 := by rw [hd]; first | exact rfl | simp only [Z4d, h0, cond_true, cond_false]
   unfold Z99 at hT
   rw [hF] at hT
   exact hT
def Z240 (b1 : LA) (b2 : LB) (b3 : LC) (b4 : LD) : St :=
 ⟨Za 25 [(3, .ptr 5 0), (12, .fn 80 [.ptr 6 0])], (.cells 87 [.map 1, .map 2, .map 3, .map 4] :: oM b1 b2 b3 b4 [.cells 68 [.vec 7], .cells 84 [.map 3], .vec false ⟨.snap, []⟩])⟩
def Z241 (b1 : LA) (b2 : LB) (b3 : LC) (b4 : LD) : RT :=
 (.need [(b3.map Prod.fst).length ≤ 1000000 ∧ ∀ k ∈ (b3.map Prod.fst), k.size ≤ maxLen]
   (.leaf .normal ⟨Za 21 [], (.cells 87 [.map 1, .map 2, .map 3, .map 4] :: oM b1 b2 b3 b4 [.var 68 [] false ⟨.snap, Z4d b3 (Z29 (b3.map Prod.fst)) []⟩, .cells 84 [.map 3], .loop 2 (Za 25 [(3, .ptr 5 0)]) none])⟩ []))
def Z179 (b1 : LA) (b2 : LB) (b3 : LC) (b4 : LD) : Tree :=
 .leaf .normal ⟨Za 25 [(3, .ptr 5 0), (12, .fn 80 [.ptr 6 0])], (.cells 87 [.map 1, .map 2, .map 3, .map 4] :: oM b1 b2 b3 b4 [.cells 68 [.vec 8], .cells 84 [.map 3], .dead, .vec false ⟨.snap, Z4d b3 (Z29 (b3.map Prod.fst)) []⟩])⟩
theorem dD_Snaps_it_rg (b1 : LA) (b2 : LB) (b3 : LC) (b4 : LD) (hp0 : NK b3) (Q : Exit → St → Prop) (hT : (Z179 b1 b2 b3 b4).All Q) : Tr Tryz.prog 5 (Z47 Tryz.f52 0) (Z240 b1 b2 b3 b4) Q := by
 have hc : Z47 Tryz.f52 0 = .rangeFunc (.tmp 12) (Globs.site 2).1 (Globs.site 2).2.1 (Globs.site 2).2.2 := by kernel_rfl
 rw [hc]
 refine Tr.pre (Turn.fold 5 7 [] rfl rfl rfl) ?_
 refine Tr.pre (Turn.fits (p := ⟨Za 25 [(3, .ptr 5 0), (12, .fn 80 [.ptr 6 0])], (.cells 87 [.map 1, .map 2, .map 3, .map 4] :: oM b1 b2 b3 b4 [.var 68 [] false ⟨.snap, []⟩, .cells 84 [.map 3]])⟩) [] (by kernel_rfl) (by kernel_rfl) (by kernel_rfl) (by kernel_rfl)) ?_
 refine Tr.post ?_
 refine Tr_range (site := 2) (gf := 80) (fn := Tryz.f80) (c := Z3c Tryz.f80) (cap := [.ptr 6 0]) 7 [3] (Za 25 [(3, .ptr 5 0)]) [.yld 7, .ptr 6 0] (.cells 87 [.map 1, .map 2, .map 3, .map 4] :: oM b1 b2 b3 b4 [.var 68 [] false ⟨.snap, []⟩, .cells 84 [.map 3], .loop 2 (Za 25 [(3, .ptr 5 0)]) none]) rfl (by kernel_rfl) (by kernel_rfl) rfl (by kernel_rfl) (by kernel_rfl) (by kernel_rfl) (by kernel_rfl) (by kernel_rfl) (by kernel_rfl) (by kernel_rfl) (by kernel_rfl) ?_
 refine Z2f (kok _ _ _ _ _ _) (E := Z200) (L := (Z5f [(0, Zc1 b1 b2 b3 b4 0 [], [], Z99 b1 b2 b3 b4 0 [])])) 60 9999 (Z14.one (g := Z47 Tryz.f80 0) (b := 0) (by kernel_rfl) (by kernel_rfl) (by kernel_rfl) (by kernel_rfl) (fun Q h => Z22a b1 b2 b3 b4 hp0 (by (have q := Z211 hp0; omega)) ⟨(0, []), ⟨Nat.zero_le _, Nat.le_refl _⟩⟩ Q h)) (Z241 b1 b2 b3 b4) (by kernel_rfl) (by kernel_rfl) (by kernel_rfl) ?_
 unfold Z241
 refine ⟨Z2 (by exact hp0) (Z9), ?_⟩
 unfold Z179 at hT
 exact ⟨⟨trivial, .tup [], by kernel_rfl⟩, none, (.cells 87 [.map 1, .map 2, .map 3, .map 4] :: oM b1 b2 b3 b4 [.var 68 [] false ⟨.snap, Z4d b3 (Z29 (b3.map Prod.fst)) []⟩, .cells 84 [.map 3], .dead]), by kernel_rfl, rfl, by kernel_rfl, by kernel_rfl, by kernel_rfl, by kernel_rfl, ⟨_, Turn.unfold 5 8 rfl (by simp [hset, oM, oV]), hT⟩⟩
noncomputable def E_dD_Snaps : Env := Z65 (P := Tryz.prog) [box56_fact] [] [] ckf true
def Z9c (b1 : LA) (b2 : LB) (b3 : LC) (b4 : LD) : LS :=
 Z4d b3 (Z29 (b3.map Prod.fst)) []
def dD_SnapsR (b1 : LA) (b2 : LB) (b3 : LC) (b4 : LD) : RT :=
 (.ask false
   .fail
   (.leaf .ret ⟨Za 25 [(2, .vec 5)], (.cells 87 [.map 1, .map 2, .map 3, .map 4] :: oM b1 b2 b3 b4 [.vec false ⟨.snap, Z4d b3 (Z29 (b3.map Prod.fst)) []⟩])⟩ [0, 1, 2, 3, 4, 8]))
theorem dD_SnapsF_tr (b1 : LA) (b2 : LB) (b3 : LC) (b4 : LD) (hp0 : NK b3) : Tr Tryz.prog 5 (Z3c Tryz.f52) (Z27 Tryz.f52 [.ptr 0 0] (.cells 87 [.map 1, .map 2, .map 3, .map 4] :: oM b1 b2 b3 b4 [])) (Z48 Tryz.prog Tryz.f52 (.coll ⟨.snap, Z9c b1 b2 b3 b4⟩) (.cells 87 [.map 1, .map 2, .map 3, .map 4] :: oM b1 b2 b3 b4 [])) := by
 refine Tr.post ?_
 refine Z2f (kok _ _ _ _ _ _) (E := E_dD_Snaps) (L := (Z5f [(0, Z240 b1 b2 b3 b4, [0, 1, 2, 3, 4, 6, 8, 7], Z179 b1 b2 b3 b4)])) 60 9999 (Z14.oneR (g := Z47 Tryz.f52 0) (b := 0) (by kernel_rfl) (by kernel_rfl) (by kernel_rfl) (by kernel_rfl) (fun Q h => dD_Snaps_it_rg b1 b2 b3 b4 hp0 Q h)) (dD_SnapsR b1 b2 b3 b4) (by kernel_rfl) (by kernel_rfl) (by kernel_rfl) ?_
 unfold dD_SnapsR
 refine ⟨fun h0 => ?_, fun h0 => ?_⟩
 · exact absurd h0 (by simp)
 · have hF : Z9c b1 b2 b3 b4 = (Z4d b3 (Z29 (b3.map Prod.fst)) []) := by first | exact rfl | simp only [Z9c, h0, cond_true, cond_false]
   exact ⟨_, Turn.frz 5 rfl, trivial, .inr (by (try rw [hF]); kernel_rfl), by (try rw [hF]); kernel_rfl⟩
noncomputable def dD_Snaps_fact : Fact Tryz.prog := Z4b 52 Tryz.f52 (by kernel_rfl) rfl (by kernel_rfl) [.c (.ptr 0 0)] [.cells 87 [.map 1, .map 2, .map 3, .map 4], .map .str (.int .i64), .vols, .map .str .sn, .map .tgt .done] true (fun t u => .coll ⟨.snap, Z9c u.2.1 u.2.2.1 u.2.2.2.1 u.2.2.2.2.1⟩) (fun t u => HPL.enc _ u) (fun t u => [NK u.2.2.2.1])
 (fun _ _ _ => rfl) (fun t u => by kernel_rfl) (fun t u => by kernel_rfl) (fun t u h => dD_SnapsF_tr u.2.1 u.2.2.1 u.2.2.2.1 u.2.2.2.2.1 (h _ mS))
end Go.Proofs.YtkledlcmhbjadaaGreat
