/- The driver: what it tells. -/
import Derived.Test.YtkledlcmhbjadaaGreatDoorDDo
import Derived.Test.YtkledlcmhbjadaaGreatDoorDH3
set_option linter.unusedVariables false
set_option linter.unusedSimpArgs false
set_option maxRecDepth 100000
namespace Go.Proofs.YtkledlcmhbjadaaGreatDoor
open Go Go.Eng
noncomputable def Z1b3 : Env := Z57 (P := Tryz.prog) [] [] [] ckf true
def Z1d4 (a1 : ByteArray) (a2 : Bool) (b1 : List ByteArray) (b1_0 : ByteArray) (b1_1 : Int) (b1_2 : ByteArray) (b1_3 : Int) : RT :=
 (.leaf .normal ⟨Z9 41 [(6, .ptr 1 0), (7, .str a1)], [.dead, .cells 53 [.str b1_0, .int .i64 b1_1, .str b1_2, .int .u64 b1_3, .vec 2], .vec false ⟨.str, b1⟩]⟩ [])
def Z1d3 (a1 : ByteArray) (a2 : Bool) (b1 : List ByteArray) (b1_0 : ByteArray) (b1_1 : Int) (b1_2 : ByteArray) (b1_3 : Int) : RT :=
 (.need [(b1.length + [a1].length) * 16 ≤ Z35 ∧ b1.length + [a1].length ≤ maxLen]
   (.leaf .normal ⟨Z9 41 [], [.dead, .cells 53 [.str b1_0, .int .i64 b1_1, .str b1_2, .int .u64 b1_3, .vec 2], .vec false ⟨.str, (b1 ++ [a1])⟩]⟩ [0, 1, 4]))
theorem Z26f (a1 : ByteArray) (a2 : Bool) (b1 : List ByteArray) (b1_0 : ByteArray) (b1_1 : Int) (b1_2 : ByteArray) (b1_3 : Int) (hp0 : b1.length ≤ 1000000) : Tr Tryz.prog 2 (Globs.site 5).2.1 ⟨Z9 41 [(6, .ptr 1 0), (28, .str a1), (29, .bool a2)], .dead :: [.var 53 [.str b1_0, .int .i64 b1_1, .str b1_2, .int .u64 b1_3] false ⟨.str, b1⟩]⟩ (fun e s1 => e = .normal ∧ Tr Tryz.prog 2 (Globs.site 5).2.2 s1 (rdEnds (true) .normal [.var 53 [.str b1_0, .int .i64 b1_1, .str b1_2, .int .u64 b1_3] false ⟨.str, (b1 ++ [a1])⟩] .normal [.var 53 [.str b1_0, .int .i64 b1_1, .str b1_2, .int .u64 b1_3] false ⟨.str, (b1 ++ [a1])⟩])) := by
 refine Tr.pre (Turn.unfold 1 2 rfl (by simp)) ?_
 refine Z20 (kok _ _ _ _ _ _) (E := Z1b3) (L := Z2a) 60 9999 Z14.none (Z1d4 a1 a2 b1 b1_0 b1_1 b1_2 b1_3) (by kernel_rfl) (by kernel_rfl) (by kernel_rfl) ?_
 unfold Z1d4
 refine ⟨rfl, ?_⟩
 refine Tr.post ?_
 refine Z20 (kok _ _ _ _ _ _) (E := Z1b3) (L := Z2a) 60 9999 Z14.none (Z1d3 a1 a2 b1 b1_0 b1_1 b1_2 b1_3) (by kernel_rfl) (by kernel_rfl) (by kernel_rfl) ?_
 unfold Z1d3
 refine ⟨Z6 (by unfold Z35 maxLen; (try simp only [List.length_append, List.length_cons, List.length_nil]); omega) (Z10), ?_⟩
 exact ⟨_, Turn.fold 1 2 [.str b1_0, .int .i64 b1_1, .str b1_2, .int .u64 b1_3] rfl rfl rfl, .inl ⟨rfl, rfl, by kernel_rfl⟩⟩
noncomputable def Z213 : FactY Tryz.prog := factY 5 [.c (.str), .c (.bool)] (cpsOf 41 [(6, .ptr 1 0)]) [.var 53 [.str, .int .i64, .str, .int .u64] false .str] (fun t u => true) .normal .normal none none (fun t u => [.var 53 [.str u.2.1.2.1, .int .i64 u.2.1.2.2.1, .str u.2.1.2.2.2.1, .int .u64 u.2.1.2.2.2.2.1] false ⟨.str, (u.2.1.1 ++ [t.2.1])⟩]) (fun t u => [.var 53 [.str u.2.1.2.1, .int .i64 u.2.1.2.2.1, .str u.2.1.2.2.2.1, .int .u64 u.2.1.2.2.2.2.1] false ⟨.str, (u.2.1.1 ++ [t.2.1])⟩]) (fun t u => [u.2.1.1.length ≤ 1000000]) rfl rfl
 (fun t u => by kernel_rfl) (fun t => by kernel_rfl) (fun t u => by kernel_rfl) (fun t u => by kernel_rfl) (fun t u => by kernel_rfl) (fun t u => Z9 41 [(6, .ptr 1 0), (28, .str t.2.1), (29, .bool t.2.2.1)]) (fun t u => by kernel_rfl) (fun t u h => Z26f t.2.1 t.2.2.1 u.2.1.1 u.2.1.2.1 u.2.1.2.2.1 u.2.1.2.2.2.1 u.2.1.2.2.2.2.1 (h _ List.mem_cons_self))
noncomputable def Z14f : Env := Z57 (P := Tryz.prog) [box86_fact, sorted104_fact] [] [] ckf false [Z213]
def Z1d  : List ByteArray → List ByteArray → List ByteArray
 | [], v6 => v6
 | o :: r, v6 => Z1d r (v6 ++ [o])
def Z99 (a1 : ByteArray) (a2_0 : Int) (a2_1 : ByteArray) (a2_2 : Int) (a2_3 : Bool) (b1 : List (ByteArray × XVn)) (b1_k : ByteArray) (b3 : List XVol) (i : Nat) (v6 : List ByteArray) : St :=
 ⟨Z9 21 [(0, .yld 6), (1, .ptr 5 0), (7, .coll ⟨.str, (Z39 (((vget b1 b1_k).getD default).nodes.map Prod.fst))⟩), (8, .int .i64 ((Z39 (((vget b1 b1_k).getD default).nodes.map Prod.fst)).length : Int)), (9, .int .i64 (i : Int))], [.dead, .vols b1 (some (2, b1_k)), .dead, .var 49 [] false ⟨.vol, b3⟩, .var 53 [.str a1, .int .i64 a2_0, .str a2_1, .int .u64 a2_2] false ⟨.str, v6⟩, .cells 108 [.mapq a2_3 1 2], .loop 5 (Z9 41 [(6, .ptr 4 0)]) none]⟩
def Zcd (a1 : ByteArray) (a2_0 : Int) (a2_1 : ByteArray) (a2_2 : Int) (a2_3 : Bool) (b1 : List (ByteArray × XVn)) (b1_k : ByteArray) (b3 : List XVol) (i : Nat) (v6 : List ByteArray) : RT :=
 (.ask (decide ((i : Int) < ((Z39 (((vget b1 b1_k).getD default).nodes.map Prod.fst)).length : Int)))
   (.need [0 ≤ (i : Int) ∧ (i : Int) < ((Z39 (((vget b1 b1_k).getD default).nodes.map Prod.fst)).length : Int)]
     (.need [a2_3 = (vget b1 b1_k).isSome]
       (.ask true
         (.need [v6.length ≤ 1000000]
           (.ask false
             .fail
             (.leaf .normal ⟨Z9 21 [(0, .yld 6), (1, .ptr 5 0), (7, .coll ⟨.str, (Z39 (((vget b1 b1_k).getD default).nodes.map Prod.fst))⟩), (8, .int .i64 ((Z39 (((vget b1 b1_k).getD default).nodes.map Prod.fst)).length : Int)), (9, .int .i64 (IntKind.i64.wrap ((i : Int) + (1 : Int))))], [.dead, .vols b1 (some (2, b1_k)), .dead, .var 49 [] false ⟨.vol, b3⟩, .var 53 [.str a1, .int .i64 a2_0, .str a2_1, .int .u64 a2_2] false ⟨.str, (v6 ++ [((Z39 (((vget b1 b1_k).getD default).nodes.map Prod.fst)).getD i default)])⟩, .cells 108 [.mapq a2_3 1 2], .loop 5 (Z9 41 [(6, .ptr 4 0)]) none]⟩ [])))
         .fail)))
   (.leaf (.exit 0) ⟨Z9 21 [], [.dead, .vols b1 (some (2, b1_k)), .dead, .var 49 [] false ⟨.vol, b3⟩, .var 53 [.str a1, .int .i64 a2_0, .str a2_1, .int .u64 a2_2] false ⟨.str, v6⟩, .cells 108 [.mapq a2_3 1 2], .loop 5 (Z9 41 [(6, .ptr 4 0)]) none]⟩ []))
def Z7a (a1 : ByteArray) (a2_0 : Int) (a2_1 : ByteArray) (a2_2 : Int) (a2_3 : Bool) (b1 : List (ByteArray × XVn)) (b1_k : ByteArray) (b3 : List XVol) (i : Nat) (v6 : List ByteArray) : Tree :=
 .leaf (.exit 0) ⟨Z9 21 [], [.dead, .vols b1 (some (2, b1_k)), .dead, .var 49 [] false ⟨.vol, b3⟩, .var 53 [.str a1, .int .i64 a2_0, .str a2_1, .int .u64 a2_2] false ⟨.str, Z1d ((Z39 (((vget b1 b1_k).getD default).nodes.map Prod.fst)).drop i) v6⟩, .cells 108 [.mapq a2_3 1 2], .loop 5 (Z9 41 [(6, .ptr 4 0)]) none]⟩
theorem Z199 (a1 : ByteArray) (a2_0 : Int) (a2_1 : ByteArray) (a2_2 : Int) (a2_3 : Bool) (b1 : List (ByteArray × XVn)) (b1_k : ByteArray) (b3 : List XVol) (hp0 : a2_3 = true) (hp1 : (vget b1 b1_k).isSome = true) (hp2 : NK ((vget b1 b1_k).getD default).nodes) (hp3 : b3.length ≤ 1000000) (hlen : (Z39 (((vget b1 b1_k).getD default).nodes.map Prod.fst)).length < 4611686018427387904) (z : { z : Nat × List ByteArray // z.1 ≤ (Z39 (((vget b1 b1_k).getD default).nodes.map Prod.fst)).length ∧ z.2.length ≤ z.1 }) (Q : Exit → St → Prop) (h : (Z7a a1 a2_0 a2_1 a2_2 a2_3 b1 b1_k b3 z.1.1 z.1.2).All Q) : Tr Tryz.prog 7 (.loop (Z49 Tryz.f61 0)) (Z99 a1 a2_0 a2_1 a2_2 a2_3 b1 b1_k b3 z.1.1 z.1.2) Q := by
 refine Z98 (kok _ _ _ _ _ _) (E := Z14f) (ι := { z : Nat × List ByteArray // z.1 ≤ (Z39 (((vget b1 b1_k).getD default).nodes.map Prod.fst)).length ∧ z.2.length ≤ z.1 }) 60 0 (fun _ => Z2a) (fun z => Z99 a1 a2_0 a2_1 a2_2 a2_3 b1 b1_k b3 z.1.1 z.1.2) (fun z => Z7a a1 a2_0 a2_1 a2_2 a2_3 b1 b1_k b3 z.1.1 z.1.2) (fun z => Zcd a1 a2_0 a2_1 a2_2 a2_3 b1 b1_k b3 z.1.1 z.1.2) (fun z => (Z39 (((vget b1 b1_k).getD default).nodes.map Prod.fst)).length - z.1.1) (fun _ => Z14.none) (fun z => by obtain ⟨⟨i, v6⟩, hi⟩ := z; kernel_rfl) (fun z => by obtain ⟨⟨i, v6⟩, hi⟩ := z; kernel_rfl) (fun z => by obtain ⟨⟨i, v6⟩, hi⟩ := z; kernel_rfl) ?_ z Q h
 rintro ⟨⟨i, v6⟩, hi⟩ Q hT
 replace hT : (Z7a a1 a2_0 a2_1 a2_2 a2_3 b1 b1_k b3 i v6).All Q := hT
 replace hi : i ≤ (Z39 (((vget b1 b1_k).getD default).nodes.map Prod.fst)).length ∧ v6.length ≤ i := hi
 show (Zcd a1 a2_0 a2_1 a2_2 a2_3 b1 b1_k b3 i v6).All _
 unfold Zcd
 refine ⟨fun h0 => ?_, fun h0 => ?_⟩
 · have hlt : i < (Z39 (((vget b1 b1_k).getD default).nodes.map Prod.fst)).length := by simpa using h0
   have hd := Z8e hlt
   have hw := Z85 (i := i) (by omega)
   refine ⟨Z6 (by first | assumption | omega | ((try intro _); (try simp only [decide_eq_true_eq, decide_eq_false_iff_not, Bool.cond_false_right, Bool.cond_true_right, Bool.cond_true_left, Bool.cond_false_left, Bool.and_eq_true, Bool.or_eq_true, Bool.not_eq_true', Z35, maxLen, List.length_cons, List.length_nil, List.length_append, Z28] at *); omega)) (Z10), ?_⟩
   refine ⟨Z6 (by rw [hp0, hp1]) (Z10), ?_⟩
   refine ⟨fun h1 => ?_, fun h1 => ?_⟩
   · refine ⟨Z6 (by (have q := sort_le hp2; omega)) (Z10), ?_⟩
     refine ⟨fun h2 => ?_, fun h2 => ?_⟩
     · exact absurd h2 (by simp)
     · have hF : Z1d ((Z39 (((vget b1 b1_k).getD default).nodes.map Prod.fst)).drop i) v6 = Z1d ((Z39 (((vget b1 b1_k).getD default).nodes.map Prod.fst)).drop (i + 1)) (v6 ++ [((Z39 (((vget b1 b1_k).getD default).nodes.map Prod.fst)).getD i default)]) := by rw [hd]; first | exact (Zb h1 (Z5 h2 rfl)) | simp only [Z1d, h0, h1, h2, cond_true, cond_false]
       refine ⟨⟨((i + 1), (v6 ++ [((Z39 (((vget b1 b1_k).getD default).nodes.map Prod.fst)).getD i default)])), by (first | dsimp only | skip); constructor <;> (try simp only [List.length_append, List.length_cons, List.length_nil]) <;> omega⟩, by show (Z39 (((vget b1 b1_k).getD default).nodes.map Prod.fst)).length - (i + 1) < (Z39 (((vget b1 b1_k).getD default).nodes.map Prod.fst)).length - i; omega, ?_, ?_⟩
       · show _ = Z99 a1 a2_0 a2_1 a2_2 a2_3 b1 b1_k b3 (i + 1) (v6 ++ [((Z39 (((vget b1 b1_k).getD default).nodes.map Prod.fst)).getD i default)])
         unfold Z99
         simp only [hw]
       · show (Z7a a1 a2_0 a2_1 a2_2 a2_3 b1 b1_k b3 (i + 1) (v6 ++ [((Z39 (((vget b1 b1_k).getD default).nodes.map Prod.fst)).getD i default)])).All Q
         unfold Z7a at hT ⊢
         rw [hF] at hT
         exact hT
   · exact absurd h1 (by simp)
 · have hge : ¬ i < (Z39 (((vget b1 b1_k).getD default).nodes.map Prod.fst)).length := by simpa using h0
   have hd : (Z39 (((vget b1 b1_k).getD default).nodes.map Prod.fst)).drop i = [] := List.drop_eq_nil_of_le (by omega)
   have hF : Z1d ((Z39 (((vget b1 b1_k).getD default).nodes.map Prod.fst)).drop i) v6 = v6 := by rw [hd]; first | exact rfl | simp only [Z1d, h0, cond_true, cond_false]
   unfold Z7a at hT
   rw [hF] at hT
   exact hT
def Z16d (a1 : ByteArray) (a2_0 : Int) (a2_1 : ByteArray) (a2_2 : Int) (a2_3 : Bool) (b1 : List (ByteArray × XVn)) (b1_k : ByteArray) (b3 : List XVol) : St :=
 ⟨Z9 41 [(3, .ptr 3 0), (6, .ptr 4 0), (27, .fn 61 [.ptr 5 0])], [.dead, .vols b1 (some (2, b1_k)), .dead, .cells 49 [.vec 6], .cells 53 [.str a1, .int .i64 a2_0, .str a2_1, .int .u64 a2_2, .nils], .cells 108 [.mapq a2_3 1 2], .vec false ⟨.vol, b3⟩]⟩
def Z16e (a1 : ByteArray) (a2_0 : Int) (a2_1 : ByteArray) (a2_2 : Int) (a2_3 : Bool) (b1 : List (ByteArray × XVn)) (b1_k : ByteArray) (b3 : List XVol) : RT :=
 (.need [(((vget b1 b1_k).getD default).nodes.map Prod.fst).length ≤ 1000000 ∧ ∀ k ∈ (((vget b1 b1_k).getD default).nodes.map Prod.fst), k.size ≤ maxLen, a2_3 = true ∧ (vget b1 b1_k).isSome = true]
   (.leaf .normal ⟨Z9 21 [], [.dead, .vols b1 (some (2, b1_k)), .dead, .var 49 [] false ⟨.vol, b3⟩, .var 53 [.str a1, .int .i64 a2_0, .str a2_1, .int .u64 a2_2] false ⟨.str, Z1d (Z39 (((vget b1 b1_k).getD default).nodes.map Prod.fst)) []⟩, .cells 108 [.mapq a2_3 1 2], .loop 5 (Z9 41 [(6, .ptr 4 0)]) none]⟩ []))
def Ze1 (a1 : ByteArray) (a2_0 : Int) (a2_1 : ByteArray) (a2_2 : Int) (a2_3 : Bool) (b1 : List (ByteArray × XVn)) (b1_k : ByteArray) (b3 : List XVol) : Tree :=
 .leaf .normal ⟨Z9 41 [(3, .ptr 3 0), (6, .ptr 4 0), (27, .fn 61 [.ptr 5 0])], [.dead, .vols b1 (some (2, b1_k)), .dead, .cells 49 [.vec 7], .cells 53 [.str a1, .int .i64 a2_0, .str a2_1, .int .u64 a2_2, .vec 8], .cells 108 [.mapq a2_3 1 2], .dead, .vec false ⟨.vol, b3⟩, .vec false ⟨.str, Z1d (Z39 (((vget b1 b1_k).getD default).nodes.map Prod.fst)) []⟩]⟩
theorem Z210 (a1 : ByteArray) (a2_0 : Int) (a2_1 : ByteArray) (a2_2 : Int) (a2_3 : Bool) (b1 : List (ByteArray × XVn)) (b1_k : ByteArray) (b3 : List XVol) (hp0 : a2_3 = true) (hp1 : (vget b1 b1_k).isSome = true) (hp2 : NK ((vget b1 b1_k).getD default).nodes) (hp3 : b3.length ≤ 1000000) (Q : Exit → St → Prop) (hT : (Ze1 a1 a2_0 a2_1 a2_2 a2_3 b1 b1_k b3).All Q) : Tr Tryz.prog 4 (rangeIn 4 0) (Z16d a1 a2_0 a2_1 a2_2 a2_3 b1 b1_k b3) Q := by
 have hc : rangeIn 4 0 = .rangeFunc (.tmp 27) (Globs.site 5).1 (Globs.site 5).2.1 (Globs.site 5).2.2 := by kernel_rfl
 rw [hc]
 refine Tr.pre (Turn.ownNil 4 4 7 .str rfl rfl (by simp)) ?_
 refine Tr.pre (Turn.fold 3 6 [] rfl rfl rfl) ?_
 refine Tr.pre (Turn.fold 4 7 [.str a1, .int .i64 a2_0, .str a2_1, .int .u64 a2_2] rfl rfl rfl) ?_
 refine Tr.pre (Turn.fits (p := ⟨Z9 41 [(3, .ptr 3 0), (6, .ptr 4 0), (27, .fn 61 [.ptr 5 0])], [.dead, .vols b1 (some (2, b1_k)), .dead, .var 49 [] false ⟨.vol, b3⟩, .var 53 [.str a1, .int .i64 a2_0, .str a2_1, .int .u64 a2_2] false ⟨.str, []⟩, .cells 108 [.mapq a2_3 1 2]]⟩) [] (by kernel_rfl) (by kernel_rfl) (by kernel_rfl) (by kernel_rfl)) ?_
 refine Tr.post ?_
 refine Zc6 (site := 5) (gf := 61) (fn := Tryz.f61) (c := Z3a Tryz.f61) (cap := [.ptr 5 0]) 6 [6] (Z9 41 [(6, .ptr 4 0)]) [.yld 6, .ptr 5 0] [.dead, .vols b1 (some (2, b1_k)), .dead, .var 49 [] false ⟨.vol, b3⟩, .var 53 [.str a1, .int .i64 a2_0, .str a2_1, .int .u64 a2_2] false ⟨.str, []⟩, .cells 108 [.mapq a2_3 1 2], .loop 5 (Z9 41 [(6, .ptr 4 0)]) none] rfl (by kernel_rfl) (by kernel_rfl) rfl (by kernel_rfl) (by kernel_rfl) (by kernel_rfl) (by kernel_rfl) (by kernel_rfl) (by kernel_rfl) (by kernel_rfl) (by kernel_rfl) ?_
 refine Z20 (kok _ _ _ _ _ _) (E := Z14f) (L := (Z61 [(0, Z99 a1 a2_0 a2_1 a2_2 a2_3 b1 b1_k b3 0 [], [], Z7a a1 a2_0 a2_1 a2_2 a2_3 b1 b1_k b3 0 [])])) 60 9999 (Z14.one (g := Z49 Tryz.f61 0) (b := 0) (by kernel_rfl) (by kernel_rfl) (by kernel_rfl) (by kernel_rfl) (fun Q h => Z199 a1 a2_0 a2_1 a2_2 a2_3 b1 b1_k b3 hp0 hp1 hp2 hp3 (by (have q := sort_le hp2; omega)) ⟨(0, []), ⟨Nat.zero_le _, Nat.le_refl _⟩⟩ Q h)) (Z16e a1 a2_0 a2_1 a2_2 a2_3 b1 b1_k b3) (by kernel_rfl) (by kernel_rfl) (by kernel_rfl) ?_
 unfold Z16e
 refine ⟨Z6 (by exact hp2) (Z6 (by exact ⟨hp0, hp1⟩) (Z10)), ?_⟩
 unfold Ze1 at hT
 exact ⟨⟨trivial, .tup [], by kernel_rfl⟩, none, [.dead, .vols b1 (some (2, b1_k)), .dead, .var 49 [] false ⟨.vol, b3⟩, .var 53 [.str a1, .int .i64 a2_0, .str a2_1, .int .u64 a2_2] false ⟨.str, Z1d (Z39 (((vget b1 b1_k).getD default).nodes.map Prod.fst)) []⟩, .cells 108 [.mapq a2_3 1 2], .dead], by kernel_rfl, rfl, by kernel_rfl, by kernel_rfl, by kernel_rfl, by kernel_rfl, ⟨_, Turn.trans (Turn.unfold 3 7 rfl (by simp [hset, oM, oV])) (Turn.unfold 4 8 rfl (by simp [hset, oM, oV])), hT⟩⟩
noncomputable def Z1de : Env := Z57 (P := Tryz.prog) [box55_fact] [] [] ckf true
def Z212 (a1 : ByteArray) (a2_0 : Int) (a2_1 : ByteArray) (a2_2 : Int) (a2_3 : Bool) (b1 : List (ByteArray × XVn)) (b1_k : ByteArray) (b3 : List XVol) : RT :=
 (.leaf .normal ⟨Z9 41 [(3, .ptr 3 0), (4, .str a1), (5, .ptr 4 0)], [.dead, .vols b1 (some (2, b1_k)), .dead, .cells 49 [.vec 5], .cells 110 [.int .i64 a2_0, .str a2_1, .int .u64 a2_2, .mapq a2_3 1 2], .vec false ⟨.vol, b3⟩]⟩ [0, 1, 2, 3, 5, 4])
def Z211 (a1 : ByteArray) (a2_0 : Int) (a2_1 : ByteArray) (a2_2 : Int) (a2_3 : Bool) (b1 : List (ByteArray × XVn)) (b1_k : ByteArray) (b3 : List XVol) : RT :=
 (.need [(b3.length + [(⟨a1, a2_0, a2_1, a2_2, Z1d (Z39 (((vget b1 b1_k).getD default).nodes.map Prod.fst)) []⟩ : XVol)].length) * 72 ≤ Z35 ∧ b3.length + [(⟨a1, a2_0, a2_1, a2_2, Z1d (Z39 (((vget b1 b1_k).getD default).nodes.map Prod.fst)) []⟩ : XVol)].length ≤ maxLen]
   (.leaf .normal ⟨Z9 41 [], [.dead, .vols b1 (some (2, b1_k)), .dead, .cells 49 [.vec 4], .vec false ⟨.vol, (b3 ++ [(⟨a1, a2_0, a2_1, a2_2, Z1d (Z39 (((vget b1 b1_k).getD default).nodes.map Prod.fst)) []⟩ : XVol)])⟩]⟩ [0, 1, 2, 3, 10]))
theorem dD_Volumes_r_tr (a1 : ByteArray) (a2_0 : Int) (a2_1 : ByteArray) (a2_2 : Int) (a2_3 : Bool) (b1 : List (ByteArray × XVn)) (b1_k : ByteArray) (b3 : List XVol) (hp0 : a2_3 = true) (hp1 : (vget b1 b1_k).isSome = true) (hp2 : NK ((vget b1 b1_k).getD default).nodes) (hp3 : b3.length ≤ 1000000) : Tr Tryz.prog 4 (Globs.site 4).2.1 ⟨Z9 41 [(3, .ptr 3 0), (15, .str a1), (16, .agg [.int .i64 a2_0, .str a2_1, .int .u64 a2_2, .mapq a2_3 1 2])], .dead :: [.vols b1 (some (2, b1_k)), .dead, .var 49 [] false ⟨.vol, b3⟩]⟩ (fun e s1 => e = .normal ∧ Tr Tryz.prog 4 (Globs.site 4).2.2 s1 (rdEnds (true) .normal [.vols b1 (some (2, b1_k)), .dead, .var 49 [] false ⟨.vol, (b3 ++ [(⟨a1, a2_0, a2_1, a2_2, Z1d (Z39 (((vget b1 b1_k).getD default).nodes.map Prod.fst)) []⟩ : XVol)])⟩] .normal [.vols b1 (some (2, b1_k)), .dead, .var 49 [] false ⟨.vol, (b3 ++ [(⟨a1, a2_0, a2_1, a2_2, Z1d (Z39 (((vget b1 b1_k).getD default).nodes.map Prod.fst)) []⟩ : XVol)])⟩])) := by
 refine Tr.pre (Turn.unfold 3 4 rfl (by simp)) ?_
 refine Z20 (kok _ _ _ _ _ _) (E := Z1de) (L := Z2a) 60 9999 Z14.none (Z212 a1 a2_0 a2_1 a2_2 a2_3 b1 b1_k b3) (by kernel_rfl) (by kernel_rfl) (by kernel_rfl) ?_
 unfold Z212
 refine ⟨rfl, ?_⟩
 refine Tr.post ?_
 refine Z20 (kok _ _ _ _ _ _) (E := Z1de) (L := (Z61 [(2, Z16d a1 a2_0 a2_1 a2_2 a2_3 b1 b1_k b3, [0, 1, 2, 3, 6, 7, 5], Ze1 a1 a2_0 a2_1 a2_2 a2_3 b1 b1_k b3)])) 60 9999 (Z14.oneR (g := rangeIn 4 0) (b := 2) (by kernel_rfl) (by kernel_rfl) (by kernel_rfl) (by kernel_rfl) (fun Q h => Z210 a1 a2_0 a2_1 a2_2 a2_3 b1 b1_k b3 hp0 hp1 hp2 hp3 Q h)) (Z211 a1 a2_0 a2_1 a2_2 a2_3 b1 b1_k b3) (by kernel_rfl) (by kernel_rfl) (by kernel_rfl) ?_
 unfold Z211
 refine ⟨Z6 (by unfold Z35 maxLen; (try simp only [List.length_append, List.length_cons, List.length_nil]); omega) (Z10), ?_⟩
 exact ⟨_, Turn.fold 3 4 [] rfl rfl rfl, .inl ⟨rfl, rfl, by kernel_rfl⟩⟩
noncomputable def Z244 : FactY Tryz.prog := factY 4 [.c (.str), .agg [.int .i64, .str, .int .u64, .mapq 1 2]] (cpsOf 41 [(3, .ptr 3 0)]) [.volsA 2, .dead, .var 49 [] false .vol] (fun t u => true) .normal .normal none none (fun t u => [.vols u.2.1.1 (some (2, u.2.1.2.1)), .dead, .var 49 [] false ⟨.vol, (u.2.2.2.1.1 ++ [(⟨t.2.1, t.2.2.1.1, t.2.2.1.2.1, t.2.2.1.2.2.1, Z1d (Z39 (((vget u.2.1.1 u.2.1.2.1).getD default).nodes.map Prod.fst)) []⟩ : XVol)])⟩]) (fun t u => [.vols u.2.1.1 (some (2, u.2.1.2.1)), .dead, .var 49 [] false ⟨.vol, (u.2.2.2.1.1 ++ [(⟨t.2.1, t.2.2.1.1, t.2.2.1.2.1, t.2.2.1.2.2.1, Z1d (Z39 (((vget u.2.1.1 u.2.1.2.1).getD default).nodes.map Prod.fst)) []⟩ : XVol)])⟩]) (fun t u => [t.2.2.1.2.2.2.1 = true, (vget u.2.1.1 u.2.1.2.1).isSome = true, NK ((vget u.2.1.1 u.2.1.2.1).getD default).nodes, u.2.2.2.1.1.length ≤ 1000000]) rfl rfl
 (fun t u => by kernel_rfl) (fun t => by kernel_rfl) (fun t u => by kernel_rfl) (fun t u => by kernel_rfl) (fun t u => by kernel_rfl) (fun t u => Z9 41 [(3, .ptr 3 0), (15, .str t.2.1), (16, .agg [.int .i64 t.2.2.1.1, .str t.2.2.1.2.1, .int .u64 t.2.2.1.2.2.1, .mapq t.2.2.1.2.2.2.1 1 2])]) (fun t u => by kernel_rfl) (fun t u h => dD_Volumes_r_tr t.2.1 t.2.2.1.1 t.2.2.1.2.1 t.2.2.1.2.2.1 t.2.2.1.2.2.2.1 u.2.1.1 u.2.1.2.1 u.2.2.2.1.1 (h _ List.mem_cons_self) (h _ (List.mem_cons_of_mem _ List.mem_cons_self)) (h _ (List.mem_cons_of_mem _ (List.mem_cons_of_mem _ List.mem_cons_self))) (h _ (List.mem_cons_of_mem _ (List.mem_cons_of_mem _ (List.mem_cons_of_mem _ List.mem_cons_self)))))
noncomputable def Z1b4 : Env := Z57 (P := Tryz.prog) [box84_fact, sorted103_fact] [] [] ckf false [Z244]
def Z44 (b2 : List (ByteArray × XVn)) : List ByteArray → List XVol → List XVol
 | [], v7 => v7
 | o :: r, v7 => Z44 b2 r (v7 ++ [(⟨o, (((vget b2 o).getD default).size), (((vget b2 o).getD default).zone), (((vget b2 o).getD default).tag), Z1d (Z39 (((vget b2 o).getD default).nodes.map Prod.fst)) []⟩ : XVol)])
def Za6 (b1 : List (ByteArray × Int)) (b2 : List (ByteArray × XVn)) (b3 : List (ByteArray × XSn)) (b4 : List (XTgt × XDone)) (i : Nat) (v7 : List XVol) : St :=
 ⟨Z9 21 [(0, .yld 7), (1, .ptr 6 0), (7, .coll ⟨.str, (Z39 (b2.map Prod.fst))⟩), (8, .int .i64 ((Z39 (b2.map Prod.fst)).length : Int)), (9, .int .i64 (i : Int))], (.cells 89 [.map 1, .map 2, .map 3, .map 4] :: oM b1 b2 b3 b4 [.var 49 [] false ⟨.vol, v7⟩, .cells 85 [.map 2], .loop 4 (Z9 41 [(3, .ptr 5 0)]) none])⟩
def Z106 (b1 : List (ByteArray × Int)) (b2 : List (ByteArray × XVn)) (b3 : List (ByteArray × XSn)) (b4 : List (XTgt × XDone)) (i : Nat) (v7 : List XVol) : RT :=
 (.ask (decide ((i : Int) < ((Z39 (b2.map Prod.fst)).length : Int)))
   (.need [0 ≤ (i : Int) ∧ (i : Int) < ((Z39 (b2.map Prod.fst)).length : Int)]
     (.ask true
       (.need [((vget b2 ((Z39 (b2.map Prod.fst)).getD i default)).isSome) = true, (vget b2 ((Z39 (b2.map Prod.fst)).getD i default)).isSome = true, NK ((vget b2 ((Z39 (b2.map Prod.fst)).getD i default)).getD default).nodes, v7.length ≤ 1000000]
         (.ask false
           .fail
           (.leaf .normal ⟨Z9 21 [(0, .yld 7), (1, .ptr 6 0), (7, .coll ⟨.str, (Z39 (b2.map Prod.fst))⟩), (8, .int .i64 ((Z39 (b2.map Prod.fst)).length : Int)), (9, .int .i64 (IntKind.i64.wrap ((i : Int) + (1 : Int))))], (.cells 89 [.map 1, .map 2, .map 3, .map 4] :: oM b1 b2 b3 b4 [.var 49 [] false ⟨.vol, (v7 ++ [(⟨((Z39 (b2.map Prod.fst)).getD i default), (((vget b2 ((Z39 (b2.map Prod.fst)).getD i default)).getD default).size), (((vget b2 ((Z39 (b2.map Prod.fst)).getD i default)).getD default).zone), (((vget b2 ((Z39 (b2.map Prod.fst)).getD i default)).getD default).tag), Z1d (Z39 (((vget b2 ((Z39 (b2.map Prod.fst)).getD i default)).getD default).nodes.map Prod.fst)) []⟩ : XVol)])⟩, .cells 85 [.map 2], .loop 4 (Z9 41 [(3, .ptr 5 0)]) none])⟩ [])))
       .fail))
   (.leaf (.exit 0) ⟨Z9 21 [], (.cells 89 [.map 1, .map 2, .map 3, .map 4] :: oM b1 b2 b3 b4 [.var 49 [] false ⟨.vol, v7⟩, .cells 85 [.map 2], .loop 4 (Z9 41 [(3, .ptr 5 0)]) none])⟩ []))
def Z88 (b1 : List (ByteArray × Int)) (b2 : List (ByteArray × XVn)) (b3 : List (ByteArray × XSn)) (b4 : List (XTgt × XDone)) (i : Nat) (v7 : List XVol) : Tree :=
 .leaf (.exit 0) ⟨Z9 21 [], (.cells 89 [.map 1, .map 2, .map 3, .map 4] :: oM b1 b2 b3 b4 [.var 49 [] false ⟨.vol, Z44 b2 ((Z39 (b2.map Prod.fst)).drop i) v7⟩, .cells 85 [.map 2], .loop 4 (Z9 41 [(3, .ptr 5 0)]) none])⟩
theorem Z1eb (b1 : List (ByteArray × Int)) (b2 : List (ByteArray × XVn)) (b3 : List (ByteArray × XSn)) (b4 : List (XTgt × XDone)) (hp0 : VB b2) (hlen : (Z39 (b2.map Prod.fst)).length < 4611686018427387904) (z : { z : Nat × List XVol // z.1 ≤ (Z39 (b2.map Prod.fst)).length ∧ z.2.length ≤ z.1 }) (Q : Exit → St → Prop) (h : (Z88 b1 b2 b3 b4 z.1.1 z.1.2).All Q) : Tr Tryz.prog 8 (.loop (Z49 Tryz.f58 0)) (Za6 b1 b2 b3 b4 z.1.1 z.1.2) Q := by
 refine Z98 (kok _ _ _ _ _ _) (E := Z1b4) (ι := { z : Nat × List XVol // z.1 ≤ (Z39 (b2.map Prod.fst)).length ∧ z.2.length ≤ z.1 }) 60 0 (fun _ => Z2a) (fun z => Za6 b1 b2 b3 b4 z.1.1 z.1.2) (fun z => Z88 b1 b2 b3 b4 z.1.1 z.1.2) (fun z => Z106 b1 b2 b3 b4 z.1.1 z.1.2) (fun z => (Z39 (b2.map Prod.fst)).length - z.1.1) (fun _ => Z14.none) (fun z => by obtain ⟨⟨i, v7⟩, hi⟩ := z; kernel_rfl) (fun z => by obtain ⟨⟨i, v7⟩, hi⟩ := z; kernel_rfl) (fun z => by obtain ⟨⟨i, v7⟩, hi⟩ := z; kernel_rfl) ?_ z Q h
 rintro ⟨⟨i, v7⟩, hi⟩ Q hT
 replace hT : (Z88 b1 b2 b3 b4 i v7).All Q := hT
 replace hi : i ≤ (Z39 (b2.map Prod.fst)).length ∧ v7.length ≤ i := hi
 show (Z106 b1 b2 b3 b4 i v7).All _
 unfold Z106
 refine ⟨fun h0 => ?_, fun h0 => ?_⟩
 · have hlt : i < (Z39 (b2.map Prod.fst)).length := by simpa using h0
   have hd := Z8e hlt
   have hw := Z85 (i := i) (by omega)
   refine ⟨Z6 (by first | assumption | omega | ((try intro _); (try simp only [decide_eq_true_eq, decide_eq_false_iff_not, Bool.cond_false_right, Bool.cond_true_right, Bool.cond_true_left, Bool.cond_false_left, Bool.and_eq_true, Bool.or_eq_true, Bool.not_eq_true', Z35, maxLen, List.length_cons, List.length_nil, List.length_append, Z28] at *); omega)) (Z10), ?_⟩
   refine ⟨fun h1 => ?_, fun h1 => ?_⟩
   · refine ⟨(by (iterate 2 refine Z6 (by exact vb_some hlt) ?_); refine Z6 (by exact vb_nk hp0 _) ?_; refine Z6 (by (have q := sort_le hp0.1; omega)) ?_; exact Z10), ?_⟩
     refine ⟨fun h2 => ?_, fun h2 => ?_⟩
     · exact absurd h2 (by simp)
     · have hF : Z44 b2 ((Z39 (b2.map Prod.fst)).drop i) v7 = Z44 b2 ((Z39 (b2.map Prod.fst)).drop (i + 1)) (v7 ++ [(⟨((Z39 (b2.map Prod.fst)).getD i default), (((vget b2 ((Z39 (b2.map Prod.fst)).getD i default)).getD default).size), (((vget b2 ((Z39 (b2.map Prod.fst)).getD i default)).getD default).zone), (((vget b2 ((Z39 (b2.map Prod.fst)).getD i default)).getD default).tag), Z1d (Z39 (((vget b2 ((Z39 (b2.map Prod.fst)).getD i default)).getD default).nodes.map Prod.fst)) []⟩ : XVol)]) := by rw [hd]; first | exact (Zb h1 (Z5 h2 rfl)) | simp only [Z44, h0, h1, h2, cond_true, cond_false]
       refine ⟨⟨((i + 1), (v7 ++ [(⟨((Z39 (b2.map Prod.fst)).getD i default), (((vget b2 ((Z39 (b2.map Prod.fst)).getD i default)).getD default).size), (((vget b2 ((Z39 (b2.map Prod.fst)).getD i default)).getD default).zone), (((vget b2 ((Z39 (b2.map Prod.fst)).getD i default)).getD default).tag), Z1d (Z39 (((vget b2 ((Z39 (b2.map Prod.fst)).getD i default)).getD default).nodes.map Prod.fst)) []⟩ : XVol)])), by (first | dsimp only | skip); constructor <;> (try simp only [List.length_append, List.length_cons, List.length_nil]) <;> omega⟩, by show (Z39 (b2.map Prod.fst)).length - (i + 1) < (Z39 (b2.map Prod.fst)).length - i; omega, ?_, ?_⟩
       · show _ = Za6 b1 b2 b3 b4 (i + 1) (v7 ++ [(⟨((Z39 (b2.map Prod.fst)).getD i default), (((vget b2 ((Z39 (b2.map Prod.fst)).getD i default)).getD default).size), (((vget b2 ((Z39 (b2.map Prod.fst)).getD i default)).getD default).zone), (((vget b2 ((Z39 (b2.map Prod.fst)).getD i default)).getD default).tag), Z1d (Z39 (((vget b2 ((Z39 (b2.map Prod.fst)).getD i default)).getD default).nodes.map Prod.fst)) []⟩ : XVol)])
         unfold Za6
         simp only [hw]
       · show (Z88 b1 b2 b3 b4 (i + 1) (v7 ++ [(⟨((Z39 (b2.map Prod.fst)).getD i default), (((vget b2 ((Z39 (b2.map Prod.fst)).getD i default)).getD default).size), (((vget b2 ((Z39 (b2.map Prod.fst)).getD i default)).getD default).zone), (((vget b2 ((Z39 (b2.map Prod.fst)).getD i default)).getD default).tag), Z1d (Z39 (((vget b2 ((Z39 (b2.map Prod.fst)).getD i default)).getD default).nodes.map Prod.fst)) []⟩ : XVol)])).All Q
         unfold Z88 at hT ⊢
         rw [hF] at hT
         exact hT
   · exact absurd h1 (by simp)
 · have hge : ¬ i < (Z39 (b2.map Prod.fst)).length := by simpa using h0
   have hd : (Z39 (b2.map Prod.fst)).drop i = [] := List.drop_eq_nil_of_le (by omega)
   have hF : Z44 b2 ((Z39 (b2.map Prod.fst)).drop i) v7 = v7 := by rw [hd]; first | exact rfl | simp only [Z44, h0, cond_true, cond_false]
   unfold Z88 at hT
   rw [hF] at hT
   exact hT
def Z1d5 (b1 : List (ByteArray × Int)) (b2 : List (ByteArray × XVn)) (b3 : List (ByteArray × XSn)) (b4 : List (XTgt × XDone)) : St :=
 ⟨Z9 41 [(3, .ptr 5 0), (14, .fn 58 [.ptr 6 0])], (.cells 89 [.map 1, .map 2, .map 3, .map 4] :: oM b1 b2 b3 b4 [.cells 49 [.vec 7], .cells 85 [.map 2], .vec false ⟨.vol, []⟩])⟩
def Z1d6 (b1 : List (ByteArray × Int)) (b2 : List (ByteArray × XVn)) (b3 : List (ByteArray × XSn)) (b4 : List (XTgt × XDone)) : RT :=
 (.need [(b2.map Prod.fst).length ≤ 1000000 ∧ ∀ k ∈ (b2.map Prod.fst), k.size ≤ maxLen]
   (.leaf .normal ⟨Z9 21 [], (.cells 89 [.map 1, .map 2, .map 3, .map 4] :: oM b1 b2 b3 b4 [.var 49 [] false ⟨.vol, Z44 b2 (Z39 (b2.map Prod.fst)) []⟩, .cells 85 [.map 2], .loop 4 (Z9 41 [(3, .ptr 5 0)]) none])⟩ []))
def Z12b (b1 : List (ByteArray × Int)) (b2 : List (ByteArray × XVn)) (b3 : List (ByteArray × XSn)) (b4 : List (XTgt × XDone)) : Tree :=
 .leaf .normal ⟨Z9 41 [(3, .ptr 5 0), (14, .fn 58 [.ptr 6 0])], (.cells 89 [.map 1, .map 2, .map 3, .map 4] :: oM b1 b2 b3 b4 [.cells 49 [.vec 8], .cells 85 [.map 2], .dead, .vec false ⟨.vol, Z44 b2 (Z39 (b2.map Prod.fst)) []⟩])⟩
theorem Z270 (b1 : List (ByteArray × Int)) (b2 : List (ByteArray × XVn)) (b3 : List (ByteArray × XSn)) (b4 : List (XTgt × XDone)) (hp0 : VB b2) (Q : Exit → St → Prop) (hT : (Z12b b1 b2 b3 b4).All Q) : Tr Tryz.prog 5 (Z49 Tryz.f32 0) (Z1d5 b1 b2 b3 b4) Q := by
 have hc : Z49 Tryz.f32 0 = .rangeFunc (.tmp 14) (Globs.site 4).1 (Globs.site 4).2.1 (Globs.site 4).2.2 := by kernel_rfl
 rw [hc]
 refine Tr.pre (Turn.fold 5 7 [] rfl rfl rfl) ?_
 refine Tr.pre (Turn.fits (p := ⟨Z9 41 [(3, .ptr 5 0), (14, .fn 58 [.ptr 6 0])], (.cells 89 [.map 1, .map 2, .map 3, .map 4] :: oM b1 b2 b3 b4 [.var 49 [] false ⟨.vol, []⟩, .cells 85 [.map 2]])⟩) [] (by kernel_rfl) (by kernel_rfl) (by kernel_rfl) (by kernel_rfl)) ?_
 refine Tr.post ?_
 refine Zc6 (site := 4) (gf := 58) (fn := Tryz.f58) (c := Z3a Tryz.f58) (cap := [.ptr 6 0]) 7 [3] (Z9 41 [(3, .ptr 5 0)]) [.yld 7, .ptr 6 0] (.cells 89 [.map 1, .map 2, .map 3, .map 4] :: oM b1 b2 b3 b4 [.var 49 [] false ⟨.vol, []⟩, .cells 85 [.map 2], .loop 4 (Z9 41 [(3, .ptr 5 0)]) none]) rfl (by kernel_rfl) (by kernel_rfl) rfl (by kernel_rfl) (by kernel_rfl) (by kernel_rfl) (by kernel_rfl) (by kernel_rfl) (by kernel_rfl) (by kernel_rfl) (by kernel_rfl) ?_
 refine Z20 (kok _ _ _ _ _ _) (E := Z1b4) (L := (Z61 [(0, Za6 b1 b2 b3 b4 0 [], [], Z88 b1 b2 b3 b4 0 [])])) 60 9999 (Z14.one (g := Z49 Tryz.f58 0) (b := 0) (by kernel_rfl) (by kernel_rfl) (by kernel_rfl) (by kernel_rfl) (fun Q h => Z1eb b1 b2 b3 b4 hp0 (by (have q := sort_le hp0.1; omega)) ⟨(0, []), ⟨Nat.zero_le _, Nat.le_refl _⟩⟩ Q h)) (Z1d6 b1 b2 b3 b4) (by kernel_rfl) (by kernel_rfl) (by kernel_rfl) ?_
 unfold Z1d6
 refine ⟨Z6 (by exact hp0.1) (Z10), ?_⟩
 unfold Z12b at hT
 exact ⟨⟨trivial, .tup [], by kernel_rfl⟩, none, (.cells 89 [.map 1, .map 2, .map 3, .map 4] :: oM b1 b2 b3 b4 [.var 49 [] false ⟨.vol, Z44 b2 (Z39 (b2.map Prod.fst)) []⟩, .cells 85 [.map 2], .dead]), by kernel_rfl, rfl, by kernel_rfl, by kernel_rfl, by kernel_rfl, by kernel_rfl, ⟨_, Turn.unfold 5 8 rfl (by simp [hset, oM, oV]), hT⟩⟩
noncomputable def E_dD_Volumes : Env := Z57 (P := Tryz.prog) [box54_fact] [] [] ckf true
def Z70 (b1 : List (ByteArray × Int)) (b2 : List (ByteArray × XVn)) (b3 : List (ByteArray × XSn)) (b4 : List (XTgt × XDone)) : List XVol :=
 Z44 b2 (Z39 (b2.map Prod.fst)) []
def dD_VolumesR (b1 : List (ByteArray × Int)) (b2 : List (ByteArray × XVn)) (b3 : List (ByteArray × XSn)) (b4 : List (XTgt × XDone)) : RT :=
 (.ask false
   .fail
   (.leaf .ret ⟨Z9 41 [(2, .vec 5)], (.cells 89 [.map 1, .map 2, .map 3, .map 4] :: oM b1 b2 b3 b4 [.vec false ⟨.vol, Z44 b2 (Z39 (b2.map Prod.fst)) []⟩])⟩ [0, 1, 2, 3, 4, 8]))
theorem dD_VolumesF_tr (b1 : List (ByteArray × Int)) (b2 : List (ByteArray × XVn)) (b3 : List (ByteArray × XSn)) (b4 : List (XTgt × XDone)) (hp0 : VB b2) : Tr Tryz.prog 5 (Z3a Tryz.f32) (Z1f Tryz.f32 [.ptr 0 0] (.cells 89 [.map 1, .map 2, .map 3, .map 4] :: oM b1 b2 b3 b4 [])) (Z4a Tryz.prog Tryz.f32 (.coll ⟨.vol, Z70 b1 b2 b3 b4⟩) (.cells 89 [.map 1, .map 2, .map 3, .map 4] :: oM b1 b2 b3 b4 [])) := by
 refine Tr.post ?_
 refine Z20 (kok _ _ _ _ _ _) (E := E_dD_Volumes) (L := (Z61 [(0, Z1d5 b1 b2 b3 b4, [0, 1, 2, 3, 4, 6, 8, 7], Z12b b1 b2 b3 b4)])) 60 9999 (Z14.oneR (g := Z49 Tryz.f32 0) (b := 0) (by kernel_rfl) (by kernel_rfl) (by kernel_rfl) (by kernel_rfl) (fun Q h => Z270 b1 b2 b3 b4 hp0 Q h)) (dD_VolumesR b1 b2 b3 b4) (by kernel_rfl) (by kernel_rfl) (by kernel_rfl) ?_
 unfold dD_VolumesR
 refine ⟨fun h0 => ?_, fun h0 => ?_⟩
 · exact absurd h0 (by simp)
 · have hF : Z70 b1 b2 b3 b4 = (Z44 b2 (Z39 (b2.map Prod.fst)) []) := by first | exact rfl | simp only [Z70, h0, cond_true, cond_false]
   exact ⟨_, Turn.frz 5 rfl, trivial, .inr (by (try rw [hF]); kernel_rfl), by (try rw [hF]); kernel_rfl⟩
noncomputable def dD_Volumes_fact : Fact Tryz.prog := Z50 32 Tryz.f32 (by kernel_rfl) rfl (by kernel_rfl) [.c (.ptr 0 0)] [.cells 89 [.map 1, .map 2, .map 3, .map 4], .map .str (.int .i64), .vols, .map .str .sn, .map .tgt .done] true (fun t u => .coll ⟨.vol, Z70 u.2.1 u.2.2.1 u.2.2.2.1 u.2.2.2.2.1⟩) (fun t u => HPL.enc _ u) (fun t u => [VB u.2.2.1])
 (fun _ _ _ => rfl) (fun t u => by kernel_rfl) (fun t u => by kernel_rfl) (fun t u h => dD_VolumesF_tr u.2.1 u.2.2.1 u.2.2.2.1 u.2.2.2.2.1 (h _ List.mem_cons_self))
end Go.Proofs.YtkledlcmhbjadaaGreatDoor
