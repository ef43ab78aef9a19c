/- The driver: what it tells. -/
import Derived.Test.YtpffbkbadnhmmaaDDo
import Derived.Test.YtpffbkbadnhmmaaDH3
set_option linter.unusedVariables false
set_option linter.unusedSimpArgs false
set_option maxRecDepth 100000
namespace Go.Proofs.Ytpffbkbadnhmmaa
open Go Go.Eng
noncomputable def Z17d : Env := Z62 (P := Try.prog) [] [] [] ckf true
def Z1a6 (a1 : BA) (a2 : Bool) (b1 : List BA) (b1_0 : BA) (b1_1 : Int) (b1_2 : BA) (b1_3 : Int) : RT :=
 (.leaf .normal ⟨Z9 41 [(6, .ptr 1 0), (7, .str a1)], [.dead, .cells 45 [.str b1_0, .int .i64 b1_1, .str b1_2, .int .u64 b1_3, .vec 2], .vec false ⟨.str, b1⟩]⟩ [])
def Z1a5 (a1 : BA) (a2 : Bool) (b1 : List BA) (b1_0 : BA) (b1_1 : Int) (b1_2 : BA) (b1_3 : Int) : RT :=
 (.need [(b1.length + [a1].length) * 16 ≤ Z16 ∧ b1.length + [a1].length ≤ maxLen]
   (.leaf .normal ⟨Z9 41 [], [.dead, .cells 45 [.str b1_0, .int .i64 b1_1, .str b1_2, .int .u64 b1_3, .vec 2], .vec false ⟨.str, (b1 ++ [a1])⟩]⟩ [0, 1, 4]))
theorem Z247 (a1 : BA) (a2 : Bool) (b1 : List BA) (b1_0 : BA) (b1_1 : Int) (b1_2 : BA) (b1_3 : Int) (hp0 : b1.length ≤ 1000000) : Tr Try.prog 2 (Globs.site 1).2.1 ⟨Z9 41 [(6, .ptr 1 0), (28, .str a1), (29, .bool a2)], .dead :: [.var 45 [.str b1_0, .int .i64 b1_1, .str b1_2, .int .u64 b1_3] false ⟨.str, b1⟩]⟩ (fun e s1 => e = .normal ∧ Tr Try.prog 2 (Globs.site 1).2.2 s1 (rdEnds (true) .normal [.var 45 [.str b1_0, .int .i64 b1_1, .str b1_2, .int .u64 b1_3] false ⟨.str, (b1 ++ [a1])⟩] .normal [.var 45 [.str b1_0, .int .i64 b1_1, .str b1_2, .int .u64 b1_3] false ⟨.str, (b1 ++ [a1])⟩])) := by
 refine Tr.pre (Turn.unfold 1 2 rfl (by simp)) ?_
 refine Z2f (kok _ _ _ _ _ _) (E := Z17d) (L := Z30) 60 9999 Z13.none (Z1a6 a1 a2 b1 b1_0 b1_1 b1_2 b1_3) (by kernel_rfl) (by kernel_rfl) (by kernel_rfl) ?_
 unfold Z1a6
 refine ⟨rfl, ?_⟩
 refine Tr.post ?_
 refine Z2f (kok _ _ _ _ _ _) (E := Z17d) (L := Z30) 60 9999 Z13.none (Z1a5 a1 a2 b1 b1_0 b1_1 b1_2 b1_3) (by kernel_rfl) (by kernel_rfl) (by kernel_rfl) ?_
 unfold Z1a5
 refine ⟨Z2 (by unfold Z16 maxLen; (try simp only [List.length_append, List.length_cons, List.length_nil]); omega) (Z7), ?_⟩
 exact ⟨_, Turn.fold 1 2 [.str b1_0, .int .i64 b1_1, .str b1_2, .int .u64 b1_3] rfl rfl rfl, .inl ⟨rfl, rfl, by kernel_rfl⟩⟩
noncomputable def Z1ec : FactY Try.prog := factY 1 [.c (.str), .c (.bool)] (cpsOf 41 [(6, .ptr 1 0)]) [.var 45 [.str, .int .i64, .str, .int .u64] false .str] (fun t u => true) .normal .normal none none (fun t u => [.var 45 [.str u.2.1.2.1, .int .i64 u.2.1.2.2.1, .str u.2.1.2.2.2.1, .int .u64 u.2.1.2.2.2.2.1] false ⟨.str, (u.2.1.1 ++ [t.2.1])⟩]) (fun t u => [.var 45 [.str u.2.1.2.1, .int .i64 u.2.1.2.2.1, .str u.2.1.2.2.2.1, .int .u64 u.2.1.2.2.2.2.1] false ⟨.str, (u.2.1.1 ++ [t.2.1])⟩]) (fun t u => [u.2.1.1.length ≤ 1000000]) rfl rfl
 (fun t u => by kernel_rfl) (fun t => by kernel_rfl) (fun t u => by kernel_rfl) (fun t u => by kernel_rfl) (fun t u => by kernel_rfl) (fun t u => Z9 41 [(6, .ptr 1 0), (28, .str t.2.1), (29, .bool t.2.2.1)]) (fun t u => by kernel_rfl) (fun t u h => Z247 t.2.1 t.2.2.1 u.2.1.1 u.2.1.2.1 u.2.1.2.2.1 u.2.1.2.2.2.1 u.2.1.2.2.2.2.1 (h _ mS))
noncomputable def Z125 : Env := Z62 (P := Try.prog) [box86_fact, sorted104_fact] [] [] ckf false [Z1ec]
def Z1d  : List BA → List BA → List BA
 | [], v6 => v6
 | o :: r, v6 => Z1d r (v6 ++ [o])
def Z96 (a1 : BA) (a2_0 : Int) (a2_1 : BA) (a2_2 : Int) (a2_3 : Bool) (b1 : LB) (b1_k : BA) (b3 : LV) (i : Nat) (v6 : List BA) : St :=
 ⟨Z9 21 [(0, .yld 6), (1, .ptr 5 0), (7, .coll ⟨.str, (Z26 (((vget b1 b1_k).getD default).nodes.map Prod.fst))⟩), (8, .int .i64 ((Z26 (((vget b1 b1_k).getD default).nodes.map Prod.fst)).length : Int)), (9, .int .i64 (i : Int))], [.dead, .vols b1 (some (2, b1_k)), .dead, .var 32 [] false ⟨.vol, b3⟩, .var 45 [.str a1, .int .i64 a2_0, .str a2_1, .int .u64 a2_2] false ⟨.str, v6⟩, .cells 110 [.mapq a2_3 1 2], .loop 1 (Z9 41 [(6, .ptr 4 0)]) none]⟩
def Zc5 (a1 : BA) (a2_0 : Int) (a2_1 : BA) (a2_2 : Int) (a2_3 : Bool) (b1 : LB) (b1_k : BA) (b3 : LV) (i : Nat) (v6 : List BA) : RT :=
 (.ask (decide ((i : Int) < ((Z26 (((vget b1 b1_k).getD default).nodes.map Prod.fst)).length : Int)))
   (.need [0 ≤ (i : Int) ∧ (i : Int) < ((Z26 (((vget b1 b1_k).getD default).nodes.map Prod.fst)).length : Int)]
     (.need [a2_3 = (vget b1 b1_k).isSome]
       (.ask true
         (.need [v6.length ≤ 1000000]
           (.ask false
             .fail
             (.leaf .normal ⟨Z9 21 [(0, .yld 6), (1, .ptr 5 0), (7, .coll ⟨.str, (Z26 (((vget b1 b1_k).getD default).nodes.map Prod.fst))⟩), (8, .int .i64 ((Z26 (((vget b1 b1_k).getD default).nodes.map Prod.fst)).length : Int)), (9, .int .i64 (IntKind.i64.wrap ((i : Int) + (1 : Int))))], [.dead, .vols b1 (some (2, b1_k)), .dead, .var 32 [] false ⟨.vol, b3⟩, .var 45 [.str a1, .int .i64 a2_0, .str a2_1, .int .u64 a2_2] false ⟨.str, (v6 ++ [((Z26 (((vget b1 b1_k).getD default).nodes.map Prod.fst)).getD i default)])⟩, .cells 110 [.mapq a2_3 1 2], .loop 1 (Z9 41 [(6, .ptr 4 0)]) none]⟩ [])))
         .fail)))
   (.leaf (.exit 0) ⟨Z9 21 [], [.dead, .vols b1 (some (2, b1_k)), .dead, .var 32 [] false ⟨.vol, b3⟩, .var 45 [.str a1, .int .i64 a2_0, .str a2_1, .int .u64 a2_2] false ⟨.str, v6⟩, .cells 110 [.mapq a2_3 1 2], .loop 1 (Z9 41 [(6, .ptr 4 0)]) none]⟩ []))
def Z6f (a1 : BA) (a2_0 : Int) (a2_1 : BA) (a2_2 : Int) (a2_3 : Bool) (b1 : LB) (b1_k : BA) (b3 : LV) (i : Nat) (v6 : List BA) : Tree :=
 .leaf (.exit 0) ⟨Z9 21 [], [.dead, .vols b1 (some (2, b1_k)), .dead, .var 32 [] false ⟨.vol, b3⟩, .var 45 [.str a1, .int .i64 a2_0, .str a2_1, .int .u64 a2_2] false ⟨.str, Z1d ((Z26 (((vget b1 b1_k).getD default).nodes.map Prod.fst)).drop i) v6⟩, .cells 110 [.mapq a2_3 1 2], .loop 1 (Z9 41 [(6, .ptr 4 0)]) none]⟩
theorem Z170 (a1 : BA) (a2_0 : Int) (a2_1 : BA) (a2_2 : Int) (a2_3 : Bool) (b1 : LB) (b1_k : BA) (b3 : LV) (hp0 : a2_3 = true) (hp1 : (vget b1 b1_k).isSome = true) (hp2 : NK ((vget b1 b1_k).getD default).nodes) (hp3 : b3.length ≤ 1000000) (hlen : (Z26 (((vget b1 b1_k).getD default).nodes.map Prod.fst)).length < 4611686018427387904) (z : { z : Nat × List BA // z.1 ≤ (Z26 (((vget b1 b1_k).getD default).nodes.map Prod.fst)).length ∧ z.2.length ≤ z.1 }) (Q : Exit → St → Prop) (h : (Z6f a1 a2_0 a2_1 a2_2 a2_3 b1 b1_k b3 z.1.1 z.1.2).All Q) : Tr Try.prog 7 (.loop (Z47 Try.f85 0)) (Z96 a1 a2_0 a2_1 a2_2 a2_3 b1 b1_k b3 z.1.1 z.1.2) Q := by
 refine Z61 (kok _ _ _ _ _ _) (E := Z125) (ι := { z : Nat × List BA // z.1 ≤ (Z26 (((vget b1 b1_k).getD default).nodes.map Prod.fst)).length ∧ z.2.length ≤ z.1 }) 60 0 (fun _ => Z30) (fun z => Z96 a1 a2_0 a2_1 a2_2 a2_3 b1 b1_k b3 z.1.1 z.1.2) (fun z => Z6f a1 a2_0 a2_1 a2_2 a2_3 b1 b1_k b3 z.1.1 z.1.2) (fun z => Zc5 a1 a2_0 a2_1 a2_2 a2_3 b1 b1_k b3 z.1.1 z.1.2) (fun z => (Z26 (((vget b1 b1_k).getD default).nodes.map Prod.fst)).length - z.1.1) (fun _ => Z13.none) (fun z => by obtain ⟨⟨i, v6⟩, hi⟩ := z; kernel_rfl) (fun z => by obtain ⟨⟨i, v6⟩, hi⟩ := z; kernel_rfl) (fun z => by obtain ⟨⟨i, v6⟩, hi⟩ := z; kernel_rfl) ?_ z Q h
 rintro ⟨⟨i, v6⟩, hi⟩ Q hT
 replace hT : (Z6f a1 a2_0 a2_1 a2_2 a2_3 b1 b1_k b3 i v6).All Q := hT
 replace hi : i ≤ (Z26 (((vget b1 b1_k).getD default).nodes.map Prod.fst)).length ∧ v6.length ≤ i := hi
 show (Zc5 a1 a2_0 a2_1 a2_2 a2_3 b1 b1_k b3 i v6).All _
 unfold Zc5
 refine ⟨fun h0 => ?_, fun h0 => ?_⟩
 · have hlt : i < (Z26 (((vget b1 b1_k).getD default).nodes.map Prod.fst)).length := by simpa using h0
   have hd := Z64 hlt
   have hw := Z50 (i := i) (by omega)
   refine ⟨Z2 (by first | assumption | omega | ((try intro _); (try simp only [decide_eq_true_eq, decide_eq_false_iff_not, Bool.cond_false_right, Bool.cond_true_right, Bool.cond_true_left, Bool.cond_false_left, Bool.and_eq_true, Bool.or_eq_true, Bool.not_eq_true', Z16, maxLen, List.length_cons, List.length_nil, List.length_append, Z48] at *); omega)) (Z7), ?_⟩
   refine ⟨Z2 (by rw [hp0, hp1]) (Z7), ?_⟩
   refine ⟨fun h1 => ?_, fun h1 => ?_⟩
   · refine ⟨Z2 (by (have q := Z208 hp2; omega)) (Z7), ?_⟩
     refine ⟨fun h2 => ?_, fun h2 => ?_⟩
     · exact absurd h2 (by simp)
     · have hF : Z1d ((Z26 (((vget b1 b1_k).getD default).nodes.map Prod.fst)).drop i) v6 = Z1d ((Z26 (((vget b1 b1_k).getD default).nodes.map Prod.fst)).drop (i + 1)) (v6 ++ [((Z26 (((vget b1 b1_k).getD default).nodes.map Prod.fst)).getD i default)]) := by rw [hd]; first | exact (Z11 h1 (Z3 h2 rfl)) | simp only [Z1d, h0, h1, h2, cond_true, cond_false]
       refine ⟨⟨((i + 1), (v6 ++ [((Z26 (((vget b1 b1_k).getD default).nodes.map Prod.fst)).getD i default)])), by (first | dsimp only | skip); constructor <;> (try simp only [List.length_append, List.length_cons, List.length_nil]) <;> omega⟩, by show (Z26 (((vget b1 b1_k).getD default).nodes.map Prod.fst)).length - (i + 1) < (Z26 (((vget b1 b1_k).getD default).nodes.map Prod.fst)).length - i; omega, ?_, ?_⟩
       · show _ = Z96 a1 a2_0 a2_1 a2_2 a2_3 b1 b1_k b3 (i + 1) (v6 ++ [((Z26 (((vget b1 b1_k).getD default).nodes.map Prod.fst)).getD i default)])
         unfold Z96
         simp only [hw]
       · show (Z6f a1 a2_0 a2_1 a2_2 a2_3 b1 b1_k b3 (i + 1) (v6 ++ [((Z26 (((vget b1 b1_k).getD default).nodes.map Prod.fst)).getD i default)])).All Q
         unfold Z6f at hT ⊢
         rw [hF] at hT
         exact hT
   · exact absurd h1 (by simp)
 · have hge : ¬ i < (Z26 (((vget b1 b1_k).getD default).nodes.map Prod.fst)).length := by simpa using h0
   have hd : (Z26 (((vget b1 b1_k).getD default).nodes.map Prod.fst)).drop i = [] := List.drop_eq_nil_of_le (by omega)
   have hF : Z1d ((Z26 (((vget b1 b1_k).getD default).nodes.map Prod.fst)).drop i) v6 = v6 := by rw [hd]; first | exact rfl | simp only [Z1d, h0, cond_true, cond_false]
   unfold Z6f at hT
   rw [hF] at hT
   exact hT
def Z143 (a1 : BA) (a2_0 : Int) (a2_1 : BA) (a2_2 : Int) (a2_3 : Bool) (b1 : LB) (b1_k : BA) (b3 : LV) : St :=
 ⟨Z9 41 [(3, .ptr 3 0), (6, .ptr 4 0), (27, .fn 85 [.ptr 5 0])], [.dead, .vols b1 (some (2, b1_k)), .dead, .cells 32 [.vec 6], .cells 45 [.str a1, .int .i64 a2_0, .str a2_1, .int .u64 a2_2, .nils], .cells 110 [.mapq a2_3 1 2], .vec false ⟨.vol, b3⟩]⟩
def Z144 (a1 : BA) (a2_0 : Int) (a2_1 : BA) (a2_2 : Int) (a2_3 : Bool) (b1 : LB) (b1_k : BA) (b3 : LV) : RT :=
 (.need [(((vget b1 b1_k).getD default).nodes.map Prod.fst).length ≤ 1000000 ∧ ∀ k ∈ (((vget b1 b1_k).getD default).nodes.map Prod.fst), k.size ≤ maxLen, a2_3 = true ∧ (vget b1 b1_k).isSome = true]
   (.leaf .normal ⟨Z9 21 [], [.dead, .vols b1 (some (2, b1_k)), .dead, .var 32 [] false ⟨.vol, b3⟩, .var 45 [.str a1, .int .i64 a2_0, .str a2_1, .int .u64 a2_2] false ⟨.str, Z1d (Z26 (((vget b1 b1_k).getD default).nodes.map Prod.fst)) []⟩, .cells 110 [.mapq a2_3 1 2], .loop 1 (Z9 41 [(6, .ptr 4 0)]) none]⟩ []))
def Zda (a1 : BA) (a2_0 : Int) (a2_1 : BA) (a2_2 : Int) (a2_3 : Bool) (b1 : LB) (b1_k : BA) (b3 : LV) : Tree :=
 .leaf .normal ⟨Z9 41 [(3, .ptr 3 0), (6, .ptr 4 0), (27, .fn 85 [.ptr 5 0])], [.dead, .vols b1 (some (2, b1_k)), .dead, .cells 32 [.vec 7], .cells 45 [.str a1, .int .i64 a2_0, .str a2_1, .int .u64 a2_2, .vec 8], .cells 110 [.mapq a2_3 1 2], .dead, .vec false ⟨.vol, b3⟩, .vec false ⟨.str, Z1d (Z26 (((vget b1 b1_k).getD default).nodes.map Prod.fst)) []⟩]⟩
theorem Z1e9 (a1 : BA) (a2_0 : Int) (a2_1 : BA) (a2_2 : Int) (a2_3 : Bool) (b1 : LB) (b1_k : BA) (b3 : LV) (hp0 : a2_3 = true) (hp1 : (vget b1 b1_k).isSome = true) (hp2 : NK ((vget b1 b1_k).getD default).nodes) (hp3 : b3.length ≤ 1000000) (Q : Exit → St → Prop) (hT : (Zda a1 a2_0 a2_1 a2_2 a2_3 b1 b1_k b3).All Q) : Tr Try.prog 4 (rangeIn 0 0) (Z143 a1 a2_0 a2_1 a2_2 a2_3 b1 b1_k b3) Q := by
 have hc : rangeIn 0 0 = .rangeFunc (.tmp 27) (Globs.site 1).1 (Globs.site 1).2.1 (Globs.site 1).2.2 := by kernel_rfl
 rw [hc]
 refine Tr.pre (Turn.ownNil 4 4 7 .str rfl rfl (by simp)) ?_
 refine Tr.pre (Turn.fold 3 6 [] rfl rfl rfl) ?_
 refine Tr.pre (Turn.fold 4 7 [.str a1, .int .i64 a2_0, .str a2_1, .int .u64 a2_2] rfl rfl rfl) ?_
 refine Tr.pre (Turn.fits (p := ⟨Z9 41 [(3, .ptr 3 0), (6, .ptr 4 0), (27, .fn 85 [.ptr 5 0])], [.dead, .vols b1 (some (2, b1_k)), .dead, .var 32 [] false ⟨.vol, b3⟩, .var 45 [.str a1, .int .i64 a2_0, .str a2_1, .int .u64 a2_2] false ⟨.str, []⟩, .cells 110 [.mapq a2_3 1 2]]⟩) [] (by kernel_rfl) (by kernel_rfl) (by kernel_rfl) (by kernel_rfl)) ?_
 refine Tr.post ?_
 refine Tr_range (site := 1) (gf := 85) (fn := Try.f85) (c := Z3b Try.f85) (cap := [.ptr 5 0]) 6 [6] (Z9 41 [(6, .ptr 4 0)]) [.yld 6, .ptr 5 0] [.dead, .vols b1 (some (2, b1_k)), .dead, .var 32 [] false ⟨.vol, b3⟩, .var 45 [.str a1, .int .i64 a2_0, .str a2_1, .int .u64 a2_2] false ⟨.str, []⟩, .cells 110 [.mapq a2_3 1 2], .loop 1 (Z9 41 [(6, .ptr 4 0)]) none] rfl (by kernel_rfl) (by kernel_rfl) rfl (by kernel_rfl) (by kernel_rfl) (by kernel_rfl) (by kernel_rfl) (by kernel_rfl) (by kernel_rfl) (by kernel_rfl) (by kernel_rfl) ?_
 refine Z2f (kok _ _ _ _ _ _) (E := Z125) (L := (Z5f [(0, Z96 a1 a2_0 a2_1 a2_2 a2_3 b1 b1_k b3 0 [], [], Z6f a1 a2_0 a2_1 a2_2 a2_3 b1 b1_k b3 0 [])])) 60 9999 (Z13.one (g := Z47 Try.f85 0) (b := 0) (by kernel_rfl) (by kernel_rfl) (by kernel_rfl) (by kernel_rfl) (fun Q h => Z170 a1 a2_0 a2_1 a2_2 a2_3 b1 b1_k b3 hp0 hp1 hp2 hp3 (by (have q := Z208 hp2; omega)) ⟨(0, []), ⟨Nat.zero_le _, Nat.le_refl _⟩⟩ Q h)) (Z144 a1 a2_0 a2_1 a2_2 a2_3 b1 b1_k b3) (by kernel_rfl) (by kernel_rfl) (by kernel_rfl) ?_
 unfold Z144
 refine ⟨Z2 (by exact hp2) (Z2 (by exact ⟨hp0, hp1⟩) (Z7)), ?_⟩
 unfold Zda at hT
 exact ⟨⟨trivial, .tup [], by kernel_rfl⟩, none, [.dead, .vols b1 (some (2, b1_k)), .dead, .var 32 [] false ⟨.vol, b3⟩, .var 45 [.str a1, .int .i64 a2_0, .str a2_1, .int .u64 a2_2] false ⟨.str, Z1d (Z26 (((vget b1 b1_k).getD default).nodes.map Prod.fst)) []⟩, .cells 110 [.mapq a2_3 1 2], .dead], by kernel_rfl, rfl, by kernel_rfl, by kernel_rfl, by kernel_rfl, by kernel_rfl, ⟨_, Turn.trans (Turn.unfold 3 7 rfl (by simp [hset, oM, oV])) (Turn.unfold 4 8 rfl (by simp [hset, oM, oV])), hT⟩⟩
noncomputable def Z1ac : Env := Z62 (P := Try.prog) [box55_fact] [] [] ckf true
def Z1eb (a1 : BA) (a2_0 : Int) (a2_1 : BA) (a2_2 : Int) (a2_3 : Bool) (b1 : LB) (b1_k : BA) (b3 : LV) : RT :=
 (.leaf .normal ⟨Z9 41 [(3, .ptr 3 0), (4, .str a1), (5, .ptr 4 0)], [.dead, .vols b1 (some (2, b1_k)), .dead, .cells 32 [.vec 5], .cells 112 [.int .i64 a2_0, .str a2_1, .int .u64 a2_2, .mapq a2_3 1 2], .vec false ⟨.vol, b3⟩]⟩ [0, 1, 2, 3, 5, 4])
def Z1ea (a1 : BA) (a2_0 : Int) (a2_1 : BA) (a2_2 : Int) (a2_3 : Bool) (b1 : LB) (b1_k : BA) (b3 : LV) : RT :=
 (.need [(b3.length + [(⟨a1, a2_0, a2_1, a2_2, Z1d (Z26 (((vget b1 b1_k).getD default).nodes.map Prod.fst)) []⟩ : XVol)].length) * 72 ≤ Z16 ∧ b3.length + [(⟨a1, a2_0, a2_1, a2_2, Z1d (Z26 (((vget b1 b1_k).getD default).nodes.map Prod.fst)) []⟩ : XVol)].length ≤ maxLen]
   (.leaf .normal ⟨Z9 41 [], [.dead, .vols b1 (some (2, b1_k)), .dead, .cells 32 [.vec 4], .vec false ⟨.vol, (b3 ++ [(⟨a1, a2_0, a2_1, a2_2, Z1d (Z26 (((vget b1 b1_k).getD default).nodes.map Prod.fst)) []⟩ : XVol)])⟩]⟩ [0, 1, 2, 3, 10]))
theorem dD_Volumes_r_tr (a1 : BA) (a2_0 : Int) (a2_1 : BA) (a2_2 : Int) (a2_3 : Bool) (b1 : LB) (b1_k : BA) (b3 : LV) (hp0 : a2_3 = true) (hp1 : (vget b1 b1_k).isSome = true) (hp2 : NK ((vget b1 b1_k).getD default).nodes) (hp3 : b3.length ≤ 1000000) : Tr Try.prog 4 (Globs.site 0).2.1 ⟨Z9 41 [(3, .ptr 3 0), (15, .str a1), (16, .agg [.int .i64 a2_0, .str a2_1, .int .u64 a2_2, .mapq a2_3 1 2])], .dead :: [.vols b1 (some (2, b1_k)), .dead, .var 32 [] false ⟨.vol, b3⟩]⟩ (fun e s1 => e = .normal ∧ Tr Try.prog 4 (Globs.site 0).2.2 s1 (rdEnds (true) .normal [.vols b1 (some (2, b1_k)), .dead, .var 32 [] false ⟨.vol, (b3 ++ [(⟨a1, a2_0, a2_1, a2_2, Z1d (Z26 (((vget b1 b1_k).getD default).nodes.map Prod.fst)) []⟩ : XVol)])⟩] .normal [.vols b1 (some (2, b1_k)), .dead, .var 32 [] false ⟨.vol, (b3 ++ [(⟨a1, a2_0, a2_1, a2_2, Z1d (Z26 (((vget b1 b1_k).getD default).nodes.map Prod.fst)) []⟩ : XVol)])⟩])) := by
 refine Tr.pre (Turn.unfold 3 4 rfl (by simp)) ?_
 refine Z2f (kok _ _ _ _ _ _) (E := Z1ac) (L := Z30) 60 9999 Z13.none (Z1eb a1 a2_0 a2_1 a2_2 a2_3 b1 b1_k b3) (by kernel_rfl) (by kernel_rfl) (by kernel_rfl) ?_
 unfold Z1eb
 refine ⟨rfl, ?_⟩
 refine Tr.post ?_
 refine Z2f (kok _ _ _ _ _ _) (E := Z1ac) (L := (Z5f [(2, Z143 a1 a2_0 a2_1 a2_2 a2_3 b1 b1_k b3, [0, 1, 2, 3, 6, 7, 5], Zda a1 a2_0 a2_1 a2_2 a2_3 b1 b1_k b3)])) 60 9999 (Z13.oneR (g := rangeIn 0 0) (b := 2) (by kernel_rfl) (by kernel_rfl) (by kernel_rfl) (by kernel_rfl) (fun Q h => Z1e9 a1 a2_0 a2_1 a2_2 a2_3 b1 b1_k b3 hp0 hp1 hp2 hp3 Q h)) (Z1ea a1 a2_0 a2_1 a2_2 a2_3 b1 b1_k b3) (by kernel_rfl) (by kernel_rfl) (by kernel_rfl) ?_
 unfold Z1ea
 refine ⟨Z2 (by unfold Z16 maxLen; (try simp only [List.length_append, List.length_cons, List.length_nil]); omega) (Z7), ?_⟩
 exact ⟨_, Turn.fold 3 4 [] rfl rfl rfl, .inl ⟨rfl, rfl, by kernel_rfl⟩⟩
noncomputable def Z21f : FactY Try.prog := factY 0 [.c (.str), .agg [.int .i64, .str, .int .u64, .mapq 1 2]] (cpsOf 41 [(3, .ptr 3 0)]) [.volsA 2, .dead, .var 32 [] false .vol] (fun t u => true) .normal .normal none none (fun t u => [.vols u.2.1.1 (some (2, u.2.1.2.1)), .dead, .var 32 [] false ⟨.vol, (u.2.2.2.1.1 ++ [(⟨t.2.1, t.2.2.1.1, t.2.2.1.2.1, t.2.2.1.2.2.1, Z1d (Z26 (((vget u.2.1.1 u.2.1.2.1).getD default).nodes.map Prod.fst)) []⟩ : XVol)])⟩]) (fun t u => [.vols u.2.1.1 (some (2, u.2.1.2.1)), .dead, .var 32 [] false ⟨.vol, (u.2.2.2.1.1 ++ [(⟨t.2.1, t.2.2.1.1, t.2.2.1.2.1, t.2.2.1.2.2.1, Z1d (Z26 (((vget u.2.1.1 u.2.1.2.1).getD default).nodes.map Prod.fst)) []⟩ : XVol)])⟩]) (fun t u => [t.2.2.1.2.2.2.1 = true, (vget u.2.1.1 u.2.1.2.1).isSome = true, NK ((vget u.2.1.1 u.2.1.2.1).getD default).nodes, u.2.2.2.1.1.length ≤ 1000000]) rfl rfl
 (fun t u => by kernel_rfl) (fun t => by kernel_rfl) (fun t u => by kernel_rfl) (fun t u => by kernel_rfl) (fun t u => by kernel_rfl) (fun t u => Z9 41 [(3, .ptr 3 0), (15, .str t.2.1), (16, .agg [.int .i64 t.2.2.1.1, .str t.2.2.1.2.1, .int .u64 t.2.2.1.2.2.1, .mapq t.2.2.1.2.2.2.1 1 2])]) (fun t u => by kernel_rfl) (fun t u h => dD_Volumes_r_tr t.2.1 t.2.2.1.1 t.2.2.1.2.1 t.2.2.1.2.2.1 t.2.2.1.2.2.2.1 u.2.1.1 u.2.1.2.1 u.2.2.2.1.1 (h _ mS) (h _ (mN mS)) (h _ (mN (mN mS))) (h _ (mN (mN (mN mS)))))
noncomputable def Z17e : Env := Z62 (P := Try.prog) [box84_fact, sorted103_fact] [] [] ckf false [Z21f]
def Z3f (b2 : LB) : List BA → LV → LV
 | [], v7 => v7
 | o :: r, v7 => Z3f b2 r (v7 ++ [(⟨o, (((vget b2 o).getD default).size), (((vget b2 o).getD default).zone), (((vget b2 o).getD default).tag), Z1d (Z26 (((vget b2 o).getD default).nodes.map Prod.fst)) []⟩ : XVol)])
def Za3 (b1 : LA) (b2 : LB) (b3 : LC) (b4 : LD) (i : Nat) (v7 : LV) : St :=
 ⟨Z9 21 [(0, .yld 7), (1, .ptr 6 0), (7, .coll ⟨.str, (Z26 (b2.map Prod.fst))⟩), (8, .int .i64 ((Z26 (b2.map Prod.fst)).length : Int)), (9, .int .i64 (i : Int))], (.cells 102 [.map 1, .map 2, .map 3, .map 4] :: oM b1 b2 b3 b4 [.var 32 [] false ⟨.vol, v7⟩, .cells 98 [.map 2], .loop 0 (Z9 41 [(3, .ptr 5 0)]) none])⟩
def Zf1 (b1 : LA) (b2 : LB) (b3 : LC) (b4 : LD) (i : Nat) (v7 : LV) : RT :=
 (.ask (decide ((i : Int) < ((Z26 (b2.map Prod.fst)).length : Int)))
   (.need [0 ≤ (i : Int) ∧ (i : Int) < ((Z26 (b2.map Prod.fst)).length : Int)]
     (.ask true
       (.need [((vget b2 ((Z26 (b2.map Prod.fst)).getD i default)).isSome) = true, (vget b2 ((Z26 (b2.map Prod.fst)).getD i default)).isSome = true, NK ((vget b2 ((Z26 (b2.map Prod.fst)).getD i default)).getD default).nodes, v7.length ≤ 1000000]
         (.ask false
           .fail
           (.leaf .normal ⟨Z9 21 [(0, .yld 7), (1, .ptr 6 0), (7, .coll ⟨.str, (Z26 (b2.map Prod.fst))⟩), (8, .int .i64 ((Z26 (b2.map Prod.fst)).length : Int)), (9, .int .i64 (IntKind.i64.wrap ((i : Int) + (1 : Int))))], (.cells 102 [.map 1, .map 2, .map 3, .map 4] :: oM b1 b2 b3 b4 [.var 32 [] false ⟨.vol, (v7 ++ [(⟨((Z26 (b2.map Prod.fst)).getD i default), (((vget b2 ((Z26 (b2.map Prod.fst)).getD i default)).getD default).size), (((vget b2 ((Z26 (b2.map Prod.fst)).getD i default)).getD default).zone), (((vget b2 ((Z26 (b2.map Prod.fst)).getD i default)).getD default).tag), Z1d (Z26 (((vget b2 ((Z26 (b2.map Prod.fst)).getD i default)).getD default).nodes.map Prod.fst)) []⟩ : XVol)])⟩, .cells 98 [.map 2], .loop 0 (Z9 41 [(3, .ptr 5 0)]) none])⟩ [])))
       .fail))
   (.leaf (.exit 0) ⟨Z9 21 [], (.cells 102 [.map 1, .map 2, .map 3, .map 4] :: oM b1 b2 b3 b4 [.var 32 [] false ⟨.vol, v7⟩, .cells 98 [.map 2], .loop 0 (Z9 41 [(3, .ptr 5 0)]) none])⟩ []))
def Z81 (b1 : LA) (b2 : LB) (b3 : LC) (b4 : LD) (i : Nat) (v7 : LV) : Tree :=
 .leaf (.exit 0) ⟨Z9 21 [], (.cells 102 [.map 1, .map 2, .map 3, .map 4] :: oM b1 b2 b3 b4 [.var 32 [] false ⟨.vol, Z3f b2 ((Z26 (b2.map Prod.fst)).drop i) v7⟩, .cells 98 [.map 2], .loop 0 (Z9 41 [(3, .ptr 5 0)]) none])⟩
theorem Z1c0 (b1 : LA) (b2 : LB) (b3 : LC) (b4 : LD) (hp0 : VB b2) (hlen : (Z26 (b2.map Prod.fst)).length < 4611686018427387904) (z : { z : Nat × LV // z.1 ≤ (Z26 (b2.map Prod.fst)).length ∧ z.2.length ≤ z.1 }) (Q : Exit → St → Prop) (h : (Z81 b1 b2 b3 b4 z.1.1 z.1.2).All Q) : Tr Try.prog 8 (.loop (Z47 Try.f82 0)) (Za3 b1 b2 b3 b4 z.1.1 z.1.2) Q := by
 refine Z61 (kok _ _ _ _ _ _) (E := Z17e) (ι := { z : Nat × LV // z.1 ≤ (Z26 (b2.map Prod.fst)).length ∧ z.2.length ≤ z.1 }) 60 0 (fun _ => Z30) (fun z => Za3 b1 b2 b3 b4 z.1.1 z.1.2) (fun z => Z81 b1 b2 b3 b4 z.1.1 z.1.2) (fun z => Zf1 b1 b2 b3 b4 z.1.1 z.1.2) (fun z => (Z26 (b2.map Prod.fst)).length - z.1.1) (fun _ => Z13.none) (fun z => by obtain ⟨⟨i, v7⟩, hi⟩ := z; kernel_rfl) (fun z => by obtain ⟨⟨i, v7⟩, hi⟩ := z; kernel_rfl) (fun z => by obtain ⟨⟨i, v7⟩, hi⟩ := z; kernel_rfl) ?_ z Q h
 rintro ⟨⟨i, v7⟩, hi⟩ Q hT
 replace hT : (Z81 b1 b2 b3 b4 i v7).All Q := hT
 replace hi : i ≤ (Z26 (b2.map Prod.fst)).length ∧ v7.length ≤ i := hi
 show (Zf1 b1 b2 b3 b4 i v7).All _
 unfold Zf1
 refine ⟨fun h0 => ?_, fun h0 => ?_⟩
 · have hlt : i < (Z26 (b2.map Prod.fst)).length := by simpa using h0
   have hd := Z64 hlt
   have hw := Z50 (i := i) (by omega)
   refine ⟨Z2 (by first | assumption | omega | ((try intro _); (try simp only [decide_eq_true_eq, decide_eq_false_iff_not, Bool.cond_false_right, Bool.cond_true_right, Bool.cond_true_left, Bool.cond_false_left, Bool.and_eq_true, Bool.or_eq_true, Bool.not_eq_true', Z16, maxLen, List.length_cons, List.length_nil, List.length_append, Z48] at *); omega)) (Z7), ?_⟩
   refine ⟨fun h1 => ?_, fun h1 => ?_⟩
   · refine ⟨(by (iterate 2 refine Z2 (by exact vb_some hlt) ?_); refine Z2 (by exact vb_nk hp0 _) ?_; refine Z2 (by (have q := Z208 hp0.1; omega)) ?_; exact Z7), ?_⟩
     refine ⟨fun h2 => ?_, fun h2 => ?_⟩
     · exact absurd h2 (by simp)
     · have hF : Z3f b2 ((Z26 (b2.map Prod.fst)).drop i) v7 = Z3f b2 ((Z26 (b2.map Prod.fst)).drop (i + 1)) (v7 ++ [(⟨((Z26 (b2.map Prod.fst)).getD i default), (((vget b2 ((Z26 (b2.map Prod.fst)).getD i default)).getD default).size), (((vget b2 ((Z26 (b2.map Prod.fst)).getD i default)).getD default).zone), (((vget b2 ((Z26 (b2.map Prod.fst)).getD i default)).getD default).tag), Z1d (Z26 (((vget b2 ((Z26 (b2.map Prod.fst)).getD i default)).getD default).nodes.map Prod.fst)) []⟩ : XVol)]) := by rw [hd]; first | exact (Z11 h1 (Z3 h2 rfl)) | simp only [Z3f, h0, h1, h2, cond_true, cond_false]
       refine ⟨⟨((i + 1), (v7 ++ [(⟨((Z26 (b2.map Prod.fst)).getD i default), (((vget b2 ((Z26 (b2.map Prod.fst)).getD i default)).getD default).size), (((vget b2 ((Z26 (b2.map Prod.fst)).getD i default)).getD default).zone), (((vget b2 ((Z26 (b2.map Prod.fst)).getD i default)).getD default).tag), Z1d (Z26 (((vget b2 ((Z26 (b2.map Prod.fst)).getD i default)).getD default).nodes.map Prod.fst)) []⟩ : XVol)])), by (first | dsimp only | skip); constructor <;> (try simp only [List.length_append, List.length_cons, List.length_nil]) <;> omega⟩, by show (Z26 (b2.map Prod.fst)).length - (i + 1) < (Z26 (b2.map Prod.fst)).length - i; omega, ?_, ?_⟩
       · show _ = Za3 b1 b2 b3 b4 (i + 1) (v7 ++ [(⟨((Z26 (b2.map Prod.fst)).getD i default), (((vget b2 ((Z26 (b2.map Prod.fst)).getD i default)).getD default).size), (((vget b2 ((Z26 (b2.map Prod.fst)).getD i default)).getD default).zone), (((vget b2 ((Z26 (b2.map Prod.fst)).getD i default)).getD default).tag), Z1d (Z26 (((vget b2 ((Z26 (b2.map Prod.fst)).getD i default)).getD default).nodes.map Prod.fst)) []⟩ : XVol)])
         unfold Za3
         simp only [hw]
       · show (Z81 b1 b2 b3 b4 (i + 1) (v7 ++ [(⟨((Z26 (b2.map Prod.fst)).getD i default), (((vget b2 ((Z26 (b2.map Prod.fst)).getD i default)).getD default).size), (((vget b2 ((Z26 (b2.map Prod.fst)).getD i default)).getD default).zone), (((vget b2 ((Z26 (b2.map Prod.fst)).getD i default)).getD default).tag), Z1d (Z26 (((vget b2 ((Z26 (b2.map Prod.fst)).getD i default)).getD default).nodes.map Prod.fst)) []⟩ : XVol)])).All Q
         unfold Z81 at hT ⊢
         rw [hF] at hT
         exact hT
   · exact absurd h1 (by simp)
 · have hge : ¬ i < (Z26 (b2.map Prod.fst)).length := by simpa using h0
   have hd : (Z26 (b2.map Prod.fst)).drop i = [] := List.drop_eq_nil_of_le (by omega)
   have hF : Z3f b2 ((Z26 (b2.map Prod.fst)).drop i) v7 = v7 := by rw [hd]; first | exact rfl | simp only [Z3f, h0, cond_true, cond_false]
   unfold Z81 at hT
   rw [hF] at hT
   exact hT
def Z1a7 (b1 : LA) (b2 : LB) (b3 : LC) (b4 : LD) : St :=
 ⟨Z9 41 [(3, .ptr 5 0), (14, .fn 82 [.ptr 6 0])], (.cells 102 [.map 1, .map 2, .map 3, .map 4] :: oM b1 b2 b3 b4 [.cells 32 [.vec 7], .cells 98 [.map 2], .vec false ⟨.vol, []⟩])⟩
def Z1a8 (b1 : LA) (b2 : LB) (b3 : LC) (b4 : LD) : RT :=
 (.need [(b2.map Prod.fst).length ≤ 1000000 ∧ ∀ k ∈ (b2.map Prod.fst), k.size ≤ maxLen]
   (.leaf .normal ⟨Z9 21 [], (.cells 102 [.map 1, .map 2, .map 3, .map 4] :: oM b1 b2 b3 b4 [.var 32 [] false ⟨.vol, Z3f b2 (Z26 (b2.map Prod.fst)) []⟩, .cells 98 [.map 2], .loop 0 (Z9 41 [(3, .ptr 5 0)]) none])⟩ []))
def Z10c (b1 : LA) (b2 : LB) (b3 : LC) (b4 : LD) : Tree :=
 .leaf .normal ⟨Z9 41 [(3, .ptr 5 0), (14, .fn 82 [.ptr 6 0])], (.cells 102 [.map 1, .map 2, .map 3, .map 4] :: oM b1 b2 b3 b4 [.cells 32 [.vec 8], .cells 98 [.map 2], .dead, .vec false ⟨.vol, Z3f b2 (Z26 (b2.map Prod.fst)) []⟩])⟩
theorem Z248 (b1 : LA) (b2 : LB) (b3 : LC) (b4 : LD) (hp0 : VB b2) (Q : Exit → St → Prop) (hT : (Z10c b1 b2 b3 b4).All Q) : Tr Try.prog 5 (Z47 Try.f23 0) (Z1a7 b1 b2 b3 b4) Q := by
 have hc : Z47 Try.f23 0 = .rangeFunc (.tmp 14) (Globs.site 0).1 (Globs.site 0).2.1 (Globs.site 0).2.2 := by kernel_rfl
 rw [hc]
 refine Tr.pre (Turn.fold 5 7 [] rfl rfl rfl) ?_
 refine Tr.pre (Turn.fits (p := ⟨Z9 41 [(3, .ptr 5 0), (14, .fn 82 [.ptr 6 0])], (.cells 102 [.map 1, .map 2, .map 3, .map 4] :: oM b1 b2 b3 b4 [.var 32 [] false ⟨.vol, []⟩, .cells 98 [.map 2]])⟩) [] (by kernel_rfl) (by kernel_rfl) (by kernel_rfl) (by kernel_rfl)) ?_
 refine Tr.post ?_
 refine Tr_range (site := 0) (gf := 82) (fn := Try.f82) (c := Z3b Try.f82) (cap := [.ptr 6 0]) 7 [3] (Z9 41 [(3, .ptr 5 0)]) [.yld 7, .ptr 6 0] (.cells 102 [.map 1, .map 2, .map 3, .map 4] :: oM b1 b2 b3 b4 [.var 32 [] false ⟨.vol, []⟩, .cells 98 [.map 2], .loop 0 (Z9 41 [(3, .ptr 5 0)]) none]) rfl (by kernel_rfl) (by kernel_rfl) rfl (by kernel_rfl) (by kernel_rfl) (by kernel_rfl) (by kernel_rfl) (by kernel_rfl) (by kernel_rfl) (by kernel_rfl) (by kernel_rfl) ?_
 refine Z2f (kok _ _ _ _ _ _) (E := Z17e) (L := (Z5f [(0, Za3 b1 b2 b3 b4 0 [], [], Z81 b1 b2 b3 b4 0 [])])) 60 9999 (Z13.one (g := Z47 Try.f82 0) (b := 0) (by kernel_rfl) (by kernel_rfl) (by kernel_rfl) (by kernel_rfl) (fun Q h => Z1c0 b1 b2 b3 b4 hp0 (by (have q := Z208 hp0.1; omega)) ⟨(0, []), ⟨Nat.zero_le _, Nat.le_refl _⟩⟩ Q h)) (Z1a8 b1 b2 b3 b4) (by kernel_rfl) (by kernel_rfl) (by kernel_rfl) ?_
 unfold Z1a8
 refine ⟨Z2 (by exact hp0.1) (Z7), ?_⟩
 unfold Z10c at hT
 exact ⟨⟨trivial, .tup [], by kernel_rfl⟩, none, (.cells 102 [.map 1, .map 2, .map 3, .map 4] :: oM b1 b2 b3 b4 [.var 32 [] false ⟨.vol, Z3f b2 (Z26 (b2.map Prod.fst)) []⟩, .cells 98 [.map 2], .dead]), by kernel_rfl, rfl, by kernel_rfl, by kernel_rfl, by kernel_rfl, by kernel_rfl, ⟨_, Turn.unfold 5 8 rfl (by simp [hset, oM, oV]), hT⟩⟩
noncomputable def E_dD_Volumes : Env := Z62 (P := Try.prog) [box54_fact] [] [] ckf true
def Z4e (b1 : LA) (b2 : LB) (b3 : LC) (b4 : LD) : LV :=
 Z3f b2 (Z26 (b2.map Prod.fst)) []
def dD_VolumesR (b1 : LA) (b2 : LB) (b3 : LC) (b4 : LD) : RT :=
 (.ask false
   .fail
   (.leaf .ret ⟨Z9 41 [(2, .vec 5)], (.cells 102 [.map 1, .map 2, .map 3, .map 4] :: oM b1 b2 b3 b4 [.vec false ⟨.vol, Z3f b2 (Z26 (b2.map Prod.fst)) []⟩])⟩ [0, 1, 2, 3, 4, 8]))
theorem dD_VolumesF_tr (b1 : LA) (b2 : LB) (b3 : LC) (b4 : LD) (hp0 : VB b2) : Tr Try.prog 5 (Z3b Try.f23) (Z25 Try.f23 [.ptr 0 0] (.cells 102 [.map 1, .map 2, .map 3, .map 4] :: oM b1 b2 b3 b4 [])) (Z46 Try.prog Try.f23 (.coll ⟨.vol, Z4e b1 b2 b3 b4⟩) (.cells 102 [.map 1, .map 2, .map 3, .map 4] :: oM b1 b2 b3 b4 [])) := by
 refine Tr.post ?_
 refine Z2f (kok _ _ _ _ _ _) (E := E_dD_Volumes) (L := (Z5f [(0, Z1a7 b1 b2 b3 b4, [0, 1, 2, 3, 4, 6, 8, 7], Z10c b1 b2 b3 b4)])) 60 9999 (Z13.oneR (g := Z47 Try.f23 0) (b := 0) (by kernel_rfl) (by kernel_rfl) (by kernel_rfl) (by kernel_rfl) (fun Q h => Z248 b1 b2 b3 b4 hp0 Q h)) (dD_VolumesR b1 b2 b3 b4) (by kernel_rfl) (by kernel_rfl) (by kernel_rfl) ?_
 unfold dD_VolumesR
 refine ⟨fun h0 => ?_, fun h0 => ?_⟩
 · exact absurd h0 (by simp)
 · have hF : Z4e b1 b2 b3 b4 = (Z3f b2 (Z26 (b2.map Prod.fst)) []) := by first | exact rfl | simp only [Z4e, h0, cond_true, cond_false]
   exact ⟨_, Turn.frz 5 rfl, trivial, .inr (by (try rw [hF]); kernel_rfl), by (try rw [hF]); kernel_rfl⟩
noncomputable def dD_Volumes_fact : Fact Try.prog := Z4f 23 Try.f23 (by kernel_rfl) rfl (by kernel_rfl) [.c (.ptr 0 0)] [.cells 102 [.map 1, .map 2, .map 3, .map 4], .map .str (.int .i64), .vols, .map .str .sn, .map .tgt .done] true (fun t u => .coll ⟨.vol, Z4e u.2.1 u.2.2.1 u.2.2.2.1 u.2.2.2.2.1⟩) (fun t u => HPL.enc _ u) (fun t u => [VB u.2.2.1])
 (fun _ _ _ => rfl) (fun t u => by kernel_rfl) (fun t u => by kernel_rfl) (fun t u h => dD_VolumesF_tr u.2.1 u.2.2.1 u.2.2.2.1 u.2.2.2.2.1 (h _ mS))
noncomputable def Z23c : Env := Z62 (P := Try.prog) [] [] [] ckf true
def dD_Snaps_rQ (a1 : BA) (a2 : XSn) (b1 : LS) : RT :=
 (.leaf .normal ⟨Z9 25 [(3, .ptr 1 0), (4, .str a1), (5, .ptr 2 0)], [.dead, .cells 34 [.vec 3], .cells 120 [.int .i64 a2.size, .int .u64 a2.tag], .vec false ⟨.snap, b1⟩]⟩ [0, 1, 3, 2])
def dD_Snaps_rR (a1 : BA) (a2 : XSn) (b1 : LS) : RT :=
 (.need [(b1.length + [(⟨a1, a2.size, a2.tag⟩ : XSnap)].length) * 32 ≤ Z16 ∧ b1.length + [(⟨a1, a2.size, a2.tag⟩ : XSnap)].length ≤ maxLen]
   (.leaf .normal ⟨Z9 25 [], [.dead, .cells 34 [.vec 2], .vec false ⟨.snap, (b1 ++ [(⟨a1, a2.size, a2.tag⟩ : XSnap)])⟩]⟩ [0, 1, 5]))
theorem dD_Snaps_r_tr (a1 : BA) (a2 : XSn) (b1 : LS) (hp0 : b1.length ≤ 1000000) : Tr Try.prog 2 (Globs.site 2).2.1 ⟨Z9 25 [(3, .ptr 1 0), (13, .str a1), (14, .agg [.int .i64 a2.size, .int .u64 a2.tag])], .dead :: [.var 34 [] false ⟨.snap, b1⟩]⟩ (fun e s1 => e = .normal ∧ Tr Try.prog 2 (Globs.site 2).2.2 s1 (rdEnds (true) .normal [.var 34 [] false ⟨.snap, (b1 ++ [(⟨a1, a2.size, a2.tag⟩ : XSnap)])⟩] .normal [.var 34 [] false ⟨.snap, (b1 ++ [(⟨a1, a2.size, a2.tag⟩ : XSnap)])⟩])) := by
 refine Tr.pre (Turn.unfold 1 2 rfl (by simp)) ?_
 refine Z2f (kok _ _ _ _ _ _) (E := Z23c) (L := Z30) 60 9999 Z13.none (dD_Snaps_rQ a1 a2 b1) (by kernel_rfl) (by kernel_rfl) (by kernel_rfl) ?_
 unfold dD_Snaps_rQ
 refine ⟨rfl, ?_⟩
 refine Tr.post ?_
 refine Z2f (kok _ _ _ _ _ _) (E := Z23c) (L := Z30) 60 9999 Z13.none (dD_Snaps_rR a1 a2 b1) (by kernel_rfl) (by kernel_rfl) (by kernel_rfl) ?_
 unfold dD_Snaps_rR
 refine ⟨Z2 (by unfold Z16 maxLen; (try simp only [List.length_append, List.length_cons, List.length_nil]); omega) (Z7), ?_⟩
 exact ⟨_, Turn.fold 1 2 [] rfl rfl rfl, .inl ⟨rfl, rfl, by kernel_rfl⟩⟩
noncomputable def dD_Snaps_r_fact : FactY Try.prog := factY 2 [.c (.str), .st .sn] (cpsOf 25 [(3, .ptr 1 0)]) [.var 34 [] false .snap] (fun t u => true) .normal .normal none none (fun t u => [.var 34 [] false ⟨.snap, (u.2.1.1 ++ [(⟨t.2.1, t.2.2.1.size, t.2.2.1.tag⟩ : XSnap)])⟩]) (fun t u => [.var 34 [] false ⟨.snap, (u.2.1.1 ++ [(⟨t.2.1, t.2.2.1.size, t.2.2.1.tag⟩ : XSnap)])⟩]) (fun t u => [u.2.1.1.length ≤ 1000000]) rfl rfl
 (fun t u => by kernel_rfl) (fun t => by kernel_rfl) (fun t u => by kernel_rfl) (fun t u => by kernel_rfl) (fun t u => by kernel_rfl) (fun t u => Z9 25 [(3, .ptr 1 0), (13, .str t.2.1), (14, .agg [.int .i64 t.2.2.1.size, .int .u64 t.2.2.1.tag])]) (fun t u => by kernel_rfl) (fun t u h => dD_Snaps_r_tr t.2.1 t.2.2.1 u.2.1.1 (h _ mS))
noncomputable def Z1f8 : Env := Z62 (P := Try.prog) [box88_fact, sorted105_fact] [] [] ckf false [dD_Snaps_r_fact]
def Z4a (b3 : LC) : List BA → LS → LS
 | [], v7 => v7
 | o :: r, v7 => Z4a b3 r (v7 ++ [(⟨o, ((mget (k := .str) (v := .sn) b3 o).getD default).size, ((mget (k := .str) (v := .sn) b3 o).getD default).tag⟩ : XSnap)])
def Zbe (b1 : LA) (b2 : LB) (b3 : LC) (b4 : LD) (i : Nat) (v7 : LS) : St :=
 ⟨Z9 21 [(0, .yld 7), (1, .ptr 6 0), (7, .coll ⟨.str, (Z26 (b3.map Prod.fst))⟩), (8, .int .i64 ((Z26 (b3.map Prod.fst)).length : Int)), (9, .int .i64 (i : Int))], (.cells 102 [.map 1, .map 2, .map 3, .map 4] :: oM b1 b2 b3 b4 [.var 34 [] false ⟨.snap, v7⟩, .cells 99 [.map 3], .loop 2 (Z9 25 [(3, .ptr 5 0)]) none])⟩
def Z136 (b1 : LA) (b2 : LB) (b3 : LC) (b4 : LD) (i : Nat) (v7 : LS) : RT :=
 (.ask (decide ((i : Int) < ((Z26 (b3.map Prod.fst)).length : Int)))
   (.need [0 ≤ (i : Int) ∧ (i : Int) < ((Z26 (b3.map Prod.fst)).length : Int)]
     (.ask true
       (.need [v7.length ≤ 1000000]
         (.ask false
           .fail
           (.leaf .normal ⟨Z9 21 [(0, .yld 7), (1, .ptr 6 0), (7, .coll ⟨.str, (Z26 (b3.map Prod.fst))⟩), (8, .int .i64 ((Z26 (b3.map Prod.fst)).length : Int)), (9, .int .i64 (IntKind.i64.wrap ((i : Int) + (1 : Int))))], (.cells 102 [.map 1, .map 2, .map 3, .map 4] :: oM b1 b2 b3 b4 [.var 34 [] false ⟨.snap, (v7 ++ [(⟨((Z26 (b3.map Prod.fst)).getD i default), ((mget (k := .str) (v := .sn) b3 ((Z26 (b3.map Prod.fst)).getD i default)).getD default).size, ((mget (k := .str) (v := .sn) b3 ((Z26 (b3.map Prod.fst)).getD i default)).getD default).tag⟩ : XSnap)])⟩, .cells 99 [.map 3], .loop 2 (Z9 25 [(3, .ptr 5 0)]) none])⟩ [])))
       .fail))
   (.leaf (.exit 0) ⟨Z9 21 [], (.cells 102 [.map 1, .map 2, .map 3, .map 4] :: oM b1 b2 b3 b4 [.var 34 [] false ⟨.snap, v7⟩, .cells 99 [.map 3], .loop 2 (Z9 25 [(3, .ptr 5 0)]) none])⟩ []))
def Z9c (b1 : LA) (b2 : LB) (b3 : LC) (b4 : LD) (i : Nat) (v7 : LS) : Tree :=
 .leaf (.exit 0) ⟨Z9 21 [], (.cells 102 [.map 1, .map 2, .map 3, .map 4] :: oM b1 b2 b3 b4 [.var 34 [] false ⟨.snap, Z4a b3 ((Z26 (b3.map Prod.fst)).drop i) v7⟩, .cells 99 [.map 3], .loop 2 (Z9 25 [(3, .ptr 5 0)]) none])⟩
theorem Z220 (b1 : LA) (b2 : LB) (b3 : LC) (b4 : LD) (hp0 : NK b3) (hlen : (Z26 (b3.map Prod.fst)).length < 4611686018427387904) (z : { z : Nat × LS // z.1 ≤ (Z26 (b3.map Prod.fst)).length ∧ z.2.length ≤ z.1 }) (Q : Exit → St → Prop) (h : (Z9c b1 b2 b3 b4 z.1.1 z.1.2).All Q) : Tr Try.prog 8 (.loop (Z47 Try.f87 0)) (Zbe b1 b2 b3 b4 z.1.1 z.1.2) Q := by
 refine Z61 (kok _ _ _ _ _ _) (E := Z1f8) (ι := { z : Nat × LS // z.1 ≤ (Z26 (b3.map Prod.fst)).length ∧ z.2.length ≤ z.1 }) 60 0 (fun _ => Z30) (fun z => Zbe b1 b2 b3 b4 z.1.1 z.1.2) (fun z => Z9c b1 b2 b3 b4 z.1.1 z.1.2) (fun z => Z136 b1 b2 b3 b4 z.1.1 z.1.2) (fun z => (Z26 (b3.map Prod.fst)).length - z.1.1) (fun _ => Z13.none) (fun z => by obtain ⟨⟨i, v7⟩, hi⟩ := z; kernel_rfl) (fun z => by obtain ⟨⟨i, v7⟩, hi⟩ := z; kernel_rfl) (fun z => by obtain ⟨⟨i, v7⟩, hi⟩ := z; kernel_rfl) ?_ z Q h
 rintro ⟨⟨i, v7⟩, hi⟩ Q hT
 replace hT : (Z9c b1 b2 b3 b4 i v7).All Q := hT
 replace hi : i ≤ (Z26 (b3.map Prod.fst)).length ∧ v7.length ≤ i := hi
 show (Z136 b1 b2 b3 b4 i v7).All _
 unfold Z136
 refine ⟨fun h0 => ?_, fun h0 => ?_⟩
 · have hlt : i < (Z26 (b3.map Prod.fst)).length := by simpa using h0
   have hd := Z64 hlt
   have hw := Z50 (i := i) (by omega)
   refine ⟨Z2 (by first | assumption | omega | ((try intro _); (try simp only [decide_eq_true_eq, decide_eq_false_iff_not, Bool.cond_false_right, Bool.cond_true_right, Bool.cond_true_left, Bool.cond_false_left, Bool.and_eq_true, Bool.or_eq_true, Bool.not_eq_true', Z16, maxLen, List.length_cons, List.length_nil, List.length_append, Z48] at *); omega)) (Z7), ?_⟩
   refine ⟨fun h1 => ?_, fun h1 => ?_⟩
   · refine ⟨Z2 (by (have q := Z208 hp0; omega)) (Z7), ?_⟩
     refine ⟨fun h2 => ?_, fun h2 => ?_⟩
     · exact absurd h2 (by simp)
     · have hF : Z4a b3 ((Z26 (b3.map Prod.fst)).drop i) v7 = Z4a b3 ((Z26 (b3.map Prod.fst)).drop (i + 1)) (v7 ++ [(⟨((Z26 (b3.map Prod.fst)).getD i default), ((mget (k := .str) (v := .sn) b3 ((Z26 (b3.map Prod.fst)).getD i default)).getD default).size, ((mget (k := .str) (v := .sn) b3 ((Z26 (b3.map Prod.fst)).getD i default)).getD default).tag⟩ : XSnap)]) := by rw [hd]; first | exact (Z11 h1 (Z3 h2 rfl)) | simp only [Z4a, h0, h1, h2, cond_true, cond_false]
       refine ⟨⟨((i + 1), (v7 ++ [(⟨((Z26 (b3.map Prod.fst)).getD i default), ((mget (k := .str) (v := .sn) b3 ((Z26 (b3.map Prod.fst)).getD i default)).getD default).size, ((mget (k := .str) (v := .sn) b3 ((Z26 (b3.map Prod.fst)).getD i default)).getD default).tag⟩ : XSnap)])), by (first | dsimp only | skip); constructor <;> (try simp only [List.length_append, List.length_cons, List.length_nil]) <;> omega⟩, by show (Z26 (b3.map Prod.fst)).length - (i + 1) < (Z26 (b3.map Prod.fst)).length - i; omega, ?_, ?_⟩
       · show _ = Zbe b1 b2 b3 b4 (i + 1) (v7 ++ [(⟨((Z26 (b3.map Prod.fst)).getD i default), ((mget (k := .str) (v := .sn) b3 ((Z26 (b3.map Prod.fst)).getD i default)).getD default).size, ((mget (k := .str) (v := .sn) b3 ((Z26 (b3.map Prod.fst)).getD i default)).getD default).tag⟩ : XSnap)])
         unfold Zbe
         simp only [hw]
       · show (Z9c b1 b2 b3 b4 (i + 1) (v7 ++ [(⟨((Z26 (b3.map Prod.fst)).getD i default), ((mget (k := .str) (v := .sn) b3 ((Z26 (b3.map Prod.fst)).getD i default)).getD default).size, ((mget (k := .str) (v := .sn) b3 ((Z26 (b3.map Prod.fst)).getD i default)).getD default).tag⟩ : XSnap)])).All Q
         unfold Z9c at hT ⊢
         rw [hF] at hT
         exact hT
   · exact absurd h1 (by simp)
 · have hge : ¬ i < (Z26 (b3.map Prod.fst)).length := by simpa using h0
   have hd : (Z26 (b3.map Prod.fst)).drop i = [] := List.drop_eq_nil_of_le (by omega)
   have hF : Z4a b3 ((Z26 (b3.map Prod.fst)).drop i) v7 = v7 := by rw [hd]; first | exact rfl | simp only [Z4a, h0, cond_true, cond_false]
   unfold Z9c at hT
   rw [hF] at hT
   exact hT
def Z238 (b1 : LA) (b2 : LB) (b3 : LC) (b4 : LD) : St :=
 ⟨Z9 25 [(3, .ptr 5 0), (12, .fn 87 [.ptr 6 0])], (.cells 102 [.map 1, .map 2, .map 3, .map 4] :: oM b1 b2 b3 b4 [.cells 34 [.vec 7], .cells 99 [.map 3], .vec false ⟨.snap, []⟩])⟩
def Z239 (b1 : LA) (b2 : LB) (b3 : LC) (b4 : LD) : RT :=
 (.need [(b3.map Prod.fst).length ≤ 1000000 ∧ ∀ k ∈ (b3.map Prod.fst), k.size ≤ maxLen]
   (.leaf .normal ⟨Z9 21 [], (.cells 102 [.map 1, .map 2, .map 3, .map 4] :: oM b1 b2 b3 b4 [.var 34 [] false ⟨.snap, Z4a b3 (Z26 (b3.map Prod.fst)) []⟩, .cells 99 [.map 3], .loop 2 (Z9 25 [(3, .ptr 5 0)]) none])⟩ []))
def Z171 (b1 : LA) (b2 : LB) (b3 : LC) (b4 : LD) : Tree :=
 .leaf .normal ⟨Z9 25 [(3, .ptr 5 0), (12, .fn 87 [.ptr 6 0])], (.cells 102 [.map 1, .map 2, .map 3, .map 4] :: oM b1 b2 b3 b4 [.cells 34 [.vec 8], .cells 99 [.map 3], .dead, .vec false ⟨.snap, Z4a b3 (Z26 (b3.map Prod.fst)) []⟩])⟩
theorem dD_Snaps_it_rg (b1 : LA) (b2 : LB) (b3 : LC) (b4 : LD) (hp0 : NK b3) (Q : Exit → St → Prop) (hT : (Z171 b1 b2 b3 b4).All Q) : Tr Try.prog 5 (Z47 Try.f24 0) (Z238 b1 b2 b3 b4) Q := by
 have hc : Z47 Try.f24 0 = .rangeFunc (.tmp 12) (Globs.site 2).1 (Globs.site 2).2.1 (Globs.site 2).2.2 := by kernel_rfl
 rw [hc]
 refine Tr.pre (Turn.fold 5 7 [] rfl rfl rfl) ?_
 refine Tr.pre (Turn.fits (p := ⟨Z9 25 [(3, .ptr 5 0), (12, .fn 87 [.ptr 6 0])], (.cells 102 [.map 1, .map 2, .map 3, .map 4] :: oM b1 b2 b3 b4 [.var 34 [] false ⟨.snap, []⟩, .cells 99 [.map 3]])⟩) [] (by kernel_rfl) (by kernel_rfl) (by kernel_rfl) (by kernel_rfl)) ?_
 refine Tr.post ?_
 refine Tr_range (site := 2) (gf := 87) (fn := Try.f87) (c := Z3b Try.f87) (cap := [.ptr 6 0]) 7 [3] (Z9 25 [(3, .ptr 5 0)]) [.yld 7, .ptr 6 0] (.cells 102 [.map 1, .map 2, .map 3, .map 4] :: oM b1 b2 b3 b4 [.var 34 [] false ⟨.snap, []⟩, .cells 99 [.map 3], .loop 2 (Z9 25 [(3, .ptr 5 0)]) none]) rfl (by kernel_rfl) (by kernel_rfl) rfl (by kernel_rfl) (by kernel_rfl) (by kernel_rfl) (by kernel_rfl) (by kernel_rfl) (by kernel_rfl) (by kernel_rfl) (by kernel_rfl) ?_
 refine Z2f (kok _ _ _ _ _ _) (E := Z1f8) (L := (Z5f [(0, Zbe b1 b2 b3 b4 0 [], [], Z9c b1 b2 b3 b4 0 [])])) 60 9999 (Z13.one (g := Z47 Try.f87 0) (b := 0) (by kernel_rfl) (by kernel_rfl) (by kernel_rfl) (by kernel_rfl) (fun Q h => Z220 b1 b2 b3 b4 hp0 (by (have q := Z208 hp0; omega)) ⟨(0, []), ⟨Nat.zero_le _, Nat.le_refl _⟩⟩ Q h)) (Z239 b1 b2 b3 b4) (by kernel_rfl) (by kernel_rfl) (by kernel_rfl) ?_
 unfold Z239
 refine ⟨Z2 (by exact hp0) (Z7), ?_⟩
 unfold Z171 at hT
 exact ⟨⟨trivial, .tup [], by kernel_rfl⟩, none, (.cells 102 [.map 1, .map 2, .map 3, .map 4] :: oM b1 b2 b3 b4 [.var 34 [] false ⟨.snap, Z4a b3 (Z26 (b3.map Prod.fst)) []⟩, .cells 99 [.map 3], .dead]), by kernel_rfl, rfl, by kernel_rfl, by kernel_rfl, by kernel_rfl, by kernel_rfl, ⟨_, Turn.unfold 5 8 rfl (by simp [hset, oM, oV]), hT⟩⟩
noncomputable def E_dD_Snaps : Env := Z62 (P := Try.prog) [box56_fact] [] [] ckf true
def Z89 (b1 : LA) (b2 : LB) (b3 : LC) (b4 : LD) : LS :=
 Z4a b3 (Z26 (b3.map Prod.fst)) []
def dD_SnapsR (b1 : LA) (b2 : LB) (b3 : LC) (b4 : LD) : RT :=
 (.ask false
   .fail
   (.leaf .ret ⟨Z9 25 [(2, .vec 5)], (.cells 102 [.map 1, .map 2, .map 3, .map 4] :: oM b1 b2 b3 b4 [.vec false ⟨.snap, Z4a b3 (Z26 (b3.map Prod.fst)) []⟩])⟩ [0, 1, 2, 3, 4, 8]))
theorem dD_SnapsF_tr (b1 : LA) (b2 : LB) (b3 : LC) (b4 : LD) (hp0 : NK b3) : Tr Try.prog 5 (Z3b Try.f24) (Z25 Try.f24 [.ptr 0 0] (.cells 102 [.map 1, .map 2, .map 3, .map 4] :: oM b1 b2 b3 b4 [])) (Z46 Try.prog Try.f24 (.coll ⟨.snap, Z89 b1 b2 b3 b4⟩) (.cells 102 [.map 1, .map 2, .map 3, .map 4] :: oM b1 b2 b3 b4 [])) := by
 refine Tr.post ?_
 refine Z2f (kok _ _ _ _ _ _) (E := E_dD_Snaps) (L := (Z5f [(0, Z238 b1 b2 b3 b4, [0, 1, 2, 3, 4, 6, 8, 7], Z171 b1 b2 b3 b4)])) 60 9999 (Z13.oneR (g := Z47 Try.f24 0) (b := 0) (by kernel_rfl) (by kernel_rfl) (by kernel_rfl) (by kernel_rfl) (fun Q h => dD_Snaps_it_rg b1 b2 b3 b4 hp0 Q h)) (dD_SnapsR b1 b2 b3 b4) (by kernel_rfl) (by kernel_rfl) (by kernel_rfl) ?_
 unfold dD_SnapsR
 refine ⟨fun h0 => ?_, fun h0 => ?_⟩
 · exact absurd h0 (by simp)
 · have hF : Z89 b1 b2 b3 b4 = (Z4a b3 (Z26 (b3.map Prod.fst)) []) := by first | exact rfl | simp only [Z89, h0, cond_true, cond_false]
   exact ⟨_, Turn.frz 5 rfl, trivial, .inr (by (try rw [hF]); kernel_rfl), by (try rw [hF]); kernel_rfl⟩
noncomputable def dD_Snaps_fact : Fact Try.prog := Z4f 24 Try.f24 (by kernel_rfl) rfl (by kernel_rfl) [.c (.ptr 0 0)] [.cells 102 [.map 1, .map 2, .map 3, .map 4], .map .str (.int .i64), .vols, .map .str .sn, .map .tgt .done] true (fun t u => .coll ⟨.snap, Z89 u.2.1 u.2.2.1 u.2.2.2.1 u.2.2.2.2.1⟩) (fun t u => HPL.enc _ u) (fun t u => [NK u.2.2.2.1])
 (fun _ _ _ => rfl) (fun t u => by kernel_rfl) (fun t u => by kernel_rfl) (fun t u h => dD_SnapsF_tr u.2.1 u.2.2.1 u.2.2.2.1 u.2.2.2.2.1 (h _ mS))
end Go.Proofs.Ytpffbkbadnhmmaa
