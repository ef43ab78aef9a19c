/- The driver: what it tells. -/
import Derived.Test.YtpffbkbadnhmmaaDDo
import Derived.Test.YtpffbkbadnhmmaaDH3
set_option linter.unusedVariables false
set_option linter.unusedSimpArgs false
set_option maxRecDepth 100000
namespace Go.Proofs.Ytpffbkbadnhmmaa
open Go Go.Eng
noncomputable def E_dD_Volumes_r2 : Env := envOf (P := Try.prog) [] [] [] ckf true
def Z11f (a1 : BA) (a2 : Bool) (b1 : List BA) (b1_0 : BA) (b1_1 : Int) (b1_2 : BA) (b1_3 : Int) : RT :=
 (.leaf .normal ⟨slots 41 [(6, .ptr 1 0), (7, .str a1)], [.dead, .cells 45 [.str b1_0, .int .i64 b1_1, .str b1_2, .int .u64 b1_3, .vec 2], .vec false ⟨.str, b1⟩]⟩ [])
def Z11e (a1 : BA) (a2 : Bool) (b1 : List BA) (b1_0 : BA) (b1_1 : Int) (b1_2 : BA) (b1_3 : Int) : RT :=
 (.need [(b1.length + [a1].length) * 16 ≤ bytesLim ∧ b1.length + [a1].length ≤ maxLen]
   (.leaf .normal ⟨slots 41 [], [.dead, .cells 45 [.str b1_0, .int .i64 b1_1, .str b1_2, .int .u64 b1_3, .vec 2], .vec false ⟨.str, (b1 ++ [a1])⟩]⟩ [0, 1, 4]))
theorem Z15b (a1 : BA) (a2 : Bool) (b1 : List BA) (b1_0 : BA) (b1_1 : Int) (b1_2 : BA) (b1_3 : Int) (hp0 : b1.length ≤ 1000000) : Tr Try.prog 2 (Globs.site 1).2.1 ⟨slots 41 [(6, .ptr 1 0), (28, .str a1), (29, .bool a2)], .dead :: [.var 45 [.str b1_0, .int .i64 b1_1, .str b1_2, .int .u64 b1_3] false ⟨.str, b1⟩]⟩ (fun e s1 => e = .normal ∧ Tr Try.prog 2 (Globs.site 1).2.2 s1 (rdEnds (true) .normal [.var 45 [.str b1_0, .int .i64 b1_1, .str b1_2, .int .u64 b1_3] false ⟨.str, (b1 ++ [a1])⟩] .normal [.var 45 [.str b1_0, .int .i64 b1_1, .str b1_2, .int .u64 b1_3] false ⟨.str, (b1 ++ [a1])⟩])) := by
 refine Tr.pre (Turn.unfold 1 2 rfl (by simp)) ?_
 refine Tr_tree (kok _ _ _ _ _ _) (E := E_dD_Volumes_r2) (L := noLoops) 60 9999 Z11.none (Z11f a1 a2 b1 b1_0 b1_1 b1_2 b1_3) (by kernel_rfl) (by kernel_rfl) (by kernel_rfl) ?_
 unfold Z11f
 refine ⟨rfl, ?_⟩
 refine Tr.post ?_
 refine Tr_tree (kok _ _ _ _ _ _) (E := E_dD_Volumes_r2) (L := noLoops) 60 9999 Z11.none (Z11e a1 a2 b1 b1_0 b1_1 b1_2 b1_3) (by kernel_rfl) (by kernel_rfl) (by kernel_rfl) ?_
 unfold Z11e
 refine ⟨Z5 (by unfold bytesLim maxLen; (try simp only [List.length_append, List.length_cons, List.length_nil]); omega) (Z9), ?_⟩
 exact ⟨_, Turn.fold 1 2 [.str b1_0, .int .i64 b1_1, .str b1_2, .int .u64 b1_3] rfl rfl rfl, .inl ⟨rfl, rfl, by kernel_rfl⟩⟩
noncomputable def Z13d : FactY Try.prog := factY 1 [.c (.str), .c (.bool)] (cpsOf 41 [(6, .ptr 1 0)]) [.var 45 [.str, .int .i64, .str, .int .u64] false .str] (fun t u => true) .normal .normal none none (fun t u => [.var 45 [.str u.2.1.2.1, .int .i64 u.2.1.2.2.1, .str u.2.1.2.2.2.1, .int .u64 u.2.1.2.2.2.2.1] false ⟨.str, (u.2.1.1 ++ [t.2.1])⟩]) (fun t u => [.var 45 [.str u.2.1.2.1, .int .i64 u.2.1.2.2.1, .str u.2.1.2.2.2.1, .int .u64 u.2.1.2.2.2.2.1] false ⟨.str, (u.2.1.1 ++ [t.2.1])⟩]) (fun t u => [u.2.1.1.length ≤ 1000000]) rfl rfl
 (fun t u => by kernel_rfl) (fun t => by kernel_rfl) (fun t u => by kernel_rfl) (fun t u => by kernel_rfl) (fun t u => by kernel_rfl) (fun t u => slots 41 [(6, .ptr 1 0), (28, .str t.2.1), (29, .bool t.2.2.1)]) (fun t u => by kernel_rfl) (fun t u h => Z15b t.2.1 t.2.2.1 u.2.1.1 u.2.1.2.1 u.2.1.2.2.1 u.2.1.2.2.2.1 u.2.1.2.2.2.2.1 (h _ mS))
noncomputable def E_dD_Volumes_r_it : Env := envOf (P := Try.prog) [box86_fact, sorted104_fact] [] [] ckf false [Z13d]
def Z22  : List BA → List BA → List BA
 | [], v6 => v6
 | o :: r, v6 => Z22 r (v6 ++ [o])
def Z76 (a1 : BA) (a2_0 : Int) (a2_1 : BA) (a2_2 : Int) (a2_3 : Bool) (b1 : LB) (b1_k : BA) (b3 : LV) (i : Nat) (v6 : List BA) : St :=
 ⟨slots 21 [(0, .yld 6), (1, .ptr 5 0), (7, .coll ⟨.str, (sortB (((vget b1 b1_k).getD default).nodes.map Prod.fst))⟩), (8, .int .i64 ((sortB (((vget b1 b1_k).getD default).nodes.map Prod.fst)).length : Int)), (9, .int .i64 (i : Int))], [.dead, .vols b1 (some (2, b1_k)), .dead, .var 32 [] false ⟨.vol, b3⟩, .var 45 [.str a1, .int .i64 a2_0, .str a2_1, .int .u64 a2_2] false ⟨.str, v6⟩, .cells 110 [.mapq a2_3 1 2], .loop 1 (slots 41 [(6, .ptr 4 0)]) none]⟩
def Z9b (a1 : BA) (a2_0 : Int) (a2_1 : BA) (a2_2 : Int) (a2_3 : Bool) (b1 : LB) (b1_k : BA) (b3 : LV) (i : Nat) (v6 : List BA) : RT :=
 (.ask (decide ((i : Int) < ((sortB (((vget b1 b1_k).getD default).nodes.map Prod.fst)).length : Int)))
   (.need [0 ≤ (i : Int) ∧ (i : Int) < ((sortB (((vget b1 b1_k).getD default).nodes.map Prod.fst)).length : Int)]
     (.need [a2_3 = (vget b1 b1_k).isSome]
       (.ask true
         (.need [v6.length ≤ 1000000]
           (.ask false
             .fail
             (.leaf .normal ⟨slots 21 [(0, .yld 6), (1, .ptr 5 0), (7, .coll ⟨.str, (sortB (((vget b1 b1_k).getD default).nodes.map Prod.fst))⟩), (8, .int .i64 ((sortB (((vget b1 b1_k).getD default).nodes.map Prod.fst)).length : Int)), (9, .int .i64 (IntKind.i64.wrap ((i : Int) + (1 : Int))))], [.dead, .vols b1 (some (2, b1_k)), .dead, .var 32 [] false ⟨.vol, b3⟩, .var 45 [.str a1, .int .i64 a2_0, .str a2_1, .int .u64 a2_2] false ⟨.str, (v6 ++ [((sortB (((vget b1 b1_k).getD default).nodes.map Prod.fst)).getD i default)])⟩, .cells 110 [.mapq a2_3 1 2], .loop 1 (slots 41 [(6, .ptr 4 0)]) none]⟩ [])))
         .fail)))
   (.leaf (.exit 0) ⟨slots 21 [], [.dead, .vols b1 (some (2, b1_k)), .dead, .var 32 [] false ⟨.vol, b3⟩, .var 45 [.str a1, .int .i64 a2_0, .str a2_1, .int .u64 a2_2] false ⟨.str, v6⟩, .cells 110 [.mapq a2_3 1 2], .loop 1 (slots 41 [(6, .ptr 4 0)]) none]⟩ []))
def Z57 (a1 : BA) (a2_0 : Int) (a2_1 : BA) (a2_2 : Int) (a2_3 : Bool) (b1 : LB) (b1_k : BA) (b3 : LV) (i : Nat) (v6 : List BA) : Tree :=
 .leaf (.exit 0) ⟨slots 21 [], [.dead, .vols b1 (some (2, b1_k)), .dead, .var 32 [] false ⟨.vol, b3⟩, .var 45 [.str a1, .int .i64 a2_0, .str a2_1, .int .u64 a2_2] false ⟨.str, Z22 ((sortB (((vget b1 b1_k).getD default).nodes.map Prod.fst)).drop i) v6⟩, .cells 110 [.mapq a2_3 1 2], .loop 1 (slots 41 [(6, .ptr 4 0)]) none]⟩
theorem Z106 (a1 : BA) (a2_0 : Int) (a2_1 : BA) (a2_2 : Int) (a2_3 : Bool) (b1 : LB) (b1_k : BA) (b3 : LV) (hp0 : a2_3 = true) (hp1 : (vget b1 b1_k).isSome = true) (hp2 : NK ((vget b1 b1_k).getD default).nodes) (hp3 : b3.length ≤ 1000000) (hlen : (sortB (((vget b1 b1_k).getD default).nodes.map Prod.fst)).length < 4611686018427387904) (z : { z : Nat × List BA // z.1 ≤ (sortB (((vget b1 b1_k).getD default).nodes.map Prod.fst)).length ∧ z.2.length ≤ z.1 }) (Q : Exit → St → Prop) (h : (Z57 a1 a2_0 a2_1 a2_2 a2_3 b1 b1_k b3 z.1.1 z.1.2).All Q) : Tr Try.prog 7 (.loop (loopAt Try.f85 0)) (Z76 a1 a2_0 a2_1 a2_2 a2_3 b1 b1_k b3 z.1.1 z.1.2) Q := by
 refine Tr_loopT (kok _ _ _ _ _ _) (E := E_dD_Volumes_r_it) (ι := { z : Nat × List BA // z.1 ≤ (sortB (((vget b1 b1_k).getD default).nodes.map Prod.fst)).length ∧ z.2.length ≤ z.1 }) 60 0 (fun _ => noLoops) (fun z => Z76 a1 a2_0 a2_1 a2_2 a2_3 b1 b1_k b3 z.1.1 z.1.2) (fun z => Z57 a1 a2_0 a2_1 a2_2 a2_3 b1 b1_k b3 z.1.1 z.1.2) (fun z => Z9b a1 a2_0 a2_1 a2_2 a2_3 b1 b1_k b3 z.1.1 z.1.2) (fun z => (sortB (((vget b1 b1_k).getD default).nodes.map Prod.fst)).length - z.1.1) (fun _ => Z11.none) (fun z => by obtain ⟨⟨i, v6⟩, hi⟩ := z; kernel_rfl) (fun z => by obtain ⟨⟨i, v6⟩, hi⟩ := z; kernel_rfl) (fun z => by obtain ⟨⟨i, v6⟩, hi⟩ := z; kernel_rfl) ?_ z Q h
 rintro ⟨⟨i, v6⟩, hi⟩ Q hT
 replace hT : (Z57 a1 a2_0 a2_1 a2_2 a2_3 b1 b1_k b3 i v6).All Q := hT
 replace hi : i ≤ (sortB (((vget b1 b1_k).getD default).nodes.map Prod.fst)).length ∧ v6.length ≤ i := hi
 show (Z9b a1 a2_0 a2_1 a2_2 a2_3 b1 b1_k b3 i v6).All _
 unfold Z9b
 refine ⟨fun h0 => ?_, fun h0 => ?_⟩
 · have hlt : i < (sortB (((vget b1 b1_k).getD default).nodes.map Prod.fst)).length := by simpa using h0
   have hd := drop_getD hlt
   have hw := wrap_succ (i := i) (by omega)
   refine ⟨Z5 (by first | assumption | omega | ((try intro _); (try simp only [decide_eq_true_eq, decide_eq_false_iff_not, Bool.cond_false_right, Bool.cond_true_right, Bool.cond_true_left, Bool.cond_false_left, Bool.and_eq_true, Bool.or_eq_true, Bool.not_eq_true', bytesLim, maxLen, List.length_cons, List.length_nil, List.length_append, byteSize_lit] at *); omega)) (Z9), ?_⟩
   refine ⟨Z5 (by rw [hp0, hp1]) (Z9), ?_⟩
   refine ⟨fun h1 => ?_, fun h1 => ?_⟩
   · refine ⟨Z5 (by (have q := sort_le hp2; omega)) (Z9), ?_⟩
     refine ⟨fun h2 => ?_, fun h2 => ?_⟩
     · exact absurd h2 (by simp)
     · have hF : Z22 ((sortB (((vget b1 b1_k).getD default).nodes.map Prod.fst)).drop i) v6 = Z22 ((sortB (((vget b1 b1_k).getD default).nodes.map Prod.fst)).drop (i + 1)) (v6 ++ [((sortB (((vget b1 b1_k).getD default).nodes.map Prod.fst)).getD i default)]) := by rw [hd]; first | exact (Z14 h1 (Z7 h2 rfl)) | simp only [Z22, h0, h1, h2, cond_true, cond_false]
       refine ⟨⟨((i + 1), (v6 ++ [((sortB (((vget b1 b1_k).getD default).nodes.map Prod.fst)).getD i default)])), by (first | dsimp only | skip); constructor <;> (try simp only [List.length_append, List.length_cons, List.length_nil]) <;> omega⟩, by show (sortB (((vget b1 b1_k).getD default).nodes.map Prod.fst)).length - (i + 1) < (sortB (((vget b1 b1_k).getD default).nodes.map Prod.fst)).length - i; omega, ?_, ?_⟩
       · show _ = Z76 a1 a2_0 a2_1 a2_2 a2_3 b1 b1_k b3 (i + 1) (v6 ++ [((sortB (((vget b1 b1_k).getD default).nodes.map Prod.fst)).getD i default)])
         unfold Z76
         simp only [hw]
       · show (Z57 a1 a2_0 a2_1 a2_2 a2_3 b1 b1_k b3 (i + 1) (v6 ++ [((sortB (((vget b1 b1_k).getD default).nodes.map Prod.fst)).getD i default)])).All Q
         unfold Z57 at hT ⊢
         rw [hF] at hT
         exact hT
   · exact absurd h1 (by simp)
 · have hge : ¬ i < (sortB (((vget b1 b1_k).getD default).nodes.map Prod.fst)).length := by simpa using h0
   have hd : (sortB (((vget b1 b1_k).getD default).nodes.map Prod.fst)).drop i = [] := List.drop_eq_nil_of_le (by omega)
   have hF : Z22 ((sortB (((vget b1 b1_k).getD default).nodes.map Prod.fst)).drop i) v6 = v6 := by rw [hd]; first | exact rfl | simp only [Z22, h0, cond_true, cond_false]
   unfold Z57 at hT
   rw [hF] at hT
   exact hT
def Zeb (a1 : BA) (a2_0 : Int) (a2_1 : BA) (a2_2 : Int) (a2_3 : Bool) (b1 : LB) (b1_k : BA) (b3 : LV) : St :=
 ⟨slots 41 [(3, .ptr 3 0), (6, .ptr 4 0), (27, .fn 85 [.ptr 5 0])], [.dead, .vols b1 (some (2, b1_k)), .dead, .cells 32 [.vec 6], .cells 45 [.str a1, .int .i64 a2_0, .str a2_1, .int .u64 a2_2, .nils], .cells 110 [.mapq a2_3 1 2], .vec false ⟨.vol, b3⟩]⟩
def Zec (a1 : BA) (a2_0 : Int) (a2_1 : BA) (a2_2 : Int) (a2_3 : Bool) (b1 : LB) (b1_k : BA) (b3 : LV) : RT :=
 (.need [(((vget b1 b1_k).getD default).nodes.map Prod.fst).length ≤ 1000000 ∧ ∀ k ∈ (((vget b1 b1_k).getD default).nodes.map Prod.fst), k.size ≤ maxLen, a2_3 = true ∧ (vget b1 b1_k).isSome = true]
   (.leaf .normal ⟨slots 21 [], [.dead, .vols b1 (some (2, b1_k)), .dead, .var 32 [] false ⟨.vol, b3⟩, .var 45 [.str a1, .int .i64 a2_0, .str a2_1, .int .u64 a2_2] false ⟨.str, Z22 (sortB (((vget b1 b1_k).getD default).nodes.map Prod.fst)) []⟩, .cells 110 [.mapq a2_3 1 2], .loop 1 (slots 41 [(6, .ptr 4 0)]) none]⟩ []))
def Za4 (a1 : BA) (a2_0 : Int) (a2_1 : BA) (a2_2 : Int) (a2_3 : Bool) (b1 : LB) (b1_k : BA) (b3 : LV) : Tree :=
 .leaf .normal ⟨slots 41 [(3, .ptr 3 0), (6, .ptr 4 0), (27, .fn 85 [.ptr 5 0])], [.dead, .vols b1 (some (2, b1_k)), .dead, .cells 32 [.vec 7], .cells 45 [.str a1, .int .i64 a2_0, .str a2_1, .int .u64 a2_2, .vec 8], .cells 110 [.mapq a2_3 1 2], .dead, .vec false ⟨.vol, b3⟩, .vec false ⟨.str, Z22 (sortB (((vget b1 b1_k).getD default).nodes.map Prod.fst)) []⟩]⟩
theorem Z13a (a1 : BA) (a2_0 : Int) (a2_1 : BA) (a2_2 : Int) (a2_3 : Bool) (b1 : LB) (b1_k : BA) (b3 : LV) (hp0 : a2_3 = true) (hp1 : (vget b1 b1_k).isSome = true) (hp2 : NK ((vget b1 b1_k).getD default).nodes) (hp3 : b3.length ≤ 1000000) (Q : Exit → St → Prop) (hT : (Za4 a1 a2_0 a2_1 a2_2 a2_3 b1 b1_k b3).All Q) : Tr Try.prog 4 (rangeIn 0 0) (Zeb a1 a2_0 a2_1 a2_2 a2_3 b1 b1_k b3) Q := by
 have hc : rangeIn 0 0 = .rangeFunc (.tmp 27) (Globs.site 1).1 (Globs.site 1).2.1 (Globs.site 1).2.2 := by kernel_rfl
 rw [hc]
 refine Tr.pre (Turn.ownNil 4 4 7 .str rfl rfl (by simp)) ?_
 refine Tr.pre (Turn.fold 3 6 [] rfl rfl rfl) ?_
 refine Tr.pre (Turn.fold 4 7 [.str a1, .int .i64 a2_0, .str a2_1, .int .u64 a2_2] rfl rfl rfl) ?_
 refine Tr.pre (Turn.fits (p := ⟨slots 41 [(3, .ptr 3 0), (6, .ptr 4 0), (27, .fn 85 [.ptr 5 0])], [.dead, .vols b1 (some (2, b1_k)), .dead, .var 32 [] false ⟨.vol, b3⟩, .var 45 [.str a1, .int .i64 a2_0, .str a2_1, .int .u64 a2_2] false ⟨.str, []⟩, .cells 110 [.mapq a2_3 1 2]]⟩) [] (by kernel_rfl) (by kernel_rfl) (by kernel_rfl) (by kernel_rfl)) ?_
 refine Tr.post ?_
 refine Tr_range (site := 1) (gf := 85) (fn := Try.f85) (c := bodyOf Try.f85) (cap := [.ptr 5 0]) 6 [6] (slots 41 [(6, .ptr 4 0)]) [.yld 6, .ptr 5 0] [.dead, .vols b1 (some (2, b1_k)), .dead, .var 32 [] false ⟨.vol, b3⟩, .var 45 [.str a1, .int .i64 a2_0, .str a2_1, .int .u64 a2_2] false ⟨.str, []⟩, .cells 110 [.mapq a2_3 1 2], .loop 1 (slots 41 [(6, .ptr 4 0)]) none] rfl (by kernel_rfl) (by kernel_rfl) rfl (by kernel_rfl) (by kernel_rfl) (by kernel_rfl) (by kernel_rfl) (by kernel_rfl) (by kernel_rfl) (by kernel_rfl) (by kernel_rfl) ?_
 refine Tr_tree (kok _ _ _ _ _ _) (E := E_dD_Volumes_r_it) (L := (loopsOf [(0, Z76 a1 a2_0 a2_1 a2_2 a2_3 b1 b1_k b3 0 [], [], Z57 a1 a2_0 a2_1 a2_2 a2_3 b1 b1_k b3 0 [])])) 60 9999 (Z11.one (g := loopAt Try.f85 0) (b := 0) (by kernel_rfl) (by kernel_rfl) (by kernel_rfl) (by kernel_rfl) (fun Q h => Z106 a1 a2_0 a2_1 a2_2 a2_3 b1 b1_k b3 hp0 hp1 hp2 hp3 (by (have q := sort_le hp2; omega)) ⟨(0, []), ⟨Nat.zero_le _, Nat.le_refl _⟩⟩ Q h)) (Zec a1 a2_0 a2_1 a2_2 a2_3 b1 b1_k b3) (by kernel_rfl) (by kernel_rfl) (by kernel_rfl) ?_
 unfold Zec
 refine ⟨Z5 (by exact hp2) (Z5 (by exact ⟨hp0, hp1⟩) (Z9)), ?_⟩
 unfold Za4 at hT
 exact ⟨⟨trivial, .tup [], by kernel_rfl⟩, none, [.dead, .vols b1 (some (2, b1_k)), .dead, .var 32 [] false ⟨.vol, b3⟩, .var 45 [.str a1, .int .i64 a2_0, .str a2_1, .int .u64 a2_2] false ⟨.str, Z22 (sortB (((vget b1 b1_k).getD default).nodes.map Prod.fst)) []⟩, .cells 110 [.mapq a2_3 1 2], .dead], by kernel_rfl, rfl, by kernel_rfl, by kernel_rfl, by kernel_rfl, by kernel_rfl, ⟨_, Turn.trans (Turn.unfold 3 7 rfl (by simp [hset, oM, oV])) (Turn.unfold 4 8 rfl (by simp [hset, oM, oV])), hT⟩⟩
noncomputable def E_dD_Volumes_r : Env := envOf (P := Try.prog) [box55_fact] [] [] ckf true
def Z13c (a1 : BA) (a2_0 : Int) (a2_1 : BA) (a2_2 : Int) (a2_3 : Bool) (b1 : LB) (b1_k : BA) (b3 : LV) : RT :=
 (.leaf .normal ⟨slots 41 [(3, .ptr 3 0), (4, .str a1), (5, .ptr 4 0)], [.dead, .vols b1 (some (2, b1_k)), .dead, .cells 32 [.vec 5], .cells 112 [.int .i64 a2_0, .str a2_1, .int .u64 a2_2, .mapq a2_3 1 2], .vec false ⟨.vol, b3⟩]⟩ [0, 1, 2, 3, 5, 4])
def Z13b (a1 : BA) (a2_0 : Int) (a2_1 : BA) (a2_2 : Int) (a2_3 : Bool) (b1 : LB) (b1_k : BA) (b3 : LV) : RT :=
 (.need [(b3.length + [(⟨a1, a2_0, a2_1, a2_2, Z22 (sortB (((vget b1 b1_k).getD default).nodes.map Prod.fst)) []⟩ : XVol)].length) * 72 ≤ bytesLim ∧ b3.length + [(⟨a1, a2_0, a2_1, a2_2, Z22 (sortB (((vget b1 b1_k).getD default).nodes.map Prod.fst)) []⟩ : XVol)].length ≤ maxLen]
   (.leaf .normal ⟨slots 41 [], [.dead, .vols b1 (some (2, b1_k)), .dead, .cells 32 [.vec 4], .vec false ⟨.vol, (b3 ++ [(⟨a1, a2_0, a2_1, a2_2, Z22 (sortB (((vget b1 b1_k).getD default).nodes.map Prod.fst)) []⟩ : XVol)])⟩]⟩ [0, 1, 2, 3, 10]))
theorem dD_Volumes_r_tr (a1 : BA) (a2_0 : Int) (a2_1 : BA) (a2_2 : Int) (a2_3 : Bool) (b1 : LB) (b1_k : BA) (b3 : LV) (hp0 : a2_3 = true) (hp1 : (vget b1 b1_k).isSome = true) (hp2 : NK ((vget b1 b1_k).getD default).nodes) (hp3 : b3.length ≤ 1000000) : Tr Try.prog 4 (Globs.site 0).2.1 ⟨slots 41 [(3, .ptr 3 0), (15, .str a1), (16, .agg [.int .i64 a2_0, .str a2_1, .int .u64 a2_2, .mapq a2_3 1 2])], .dead :: [.vols b1 (some (2, b1_k)), .dead, .var 32 [] false ⟨.vol, b3⟩]⟩ (fun e s1 => e = .normal ∧ Tr Try.prog 4 (Globs.site 0).2.2 s1 (rdEnds (true) .normal [.vols b1 (some (2, b1_k)), .dead, .var 32 [] false ⟨.vol, (b3 ++ [(⟨a1, a2_0, a2_1, a2_2, Z22 (sortB (((vget b1 b1_k).getD default).nodes.map Prod.fst)) []⟩ : XVol)])⟩] .normal [.vols b1 (some (2, b1_k)), .dead, .var 32 [] false ⟨.vol, (b3 ++ [(⟨a1, a2_0, a2_1, a2_2, Z22 (sortB (((vget b1 b1_k).getD default).nodes.map Prod.fst)) []⟩ : XVol)])⟩])) := by
 refine Tr.pre (Turn.unfold 3 4 rfl (by simp)) ?_
 refine Tr_tree (kok _ _ _ _ _ _) (E := E_dD_Volumes_r) (L := noLoops) 60 9999 Z11.none (Z13c a1 a2_0 a2_1 a2_2 a2_3 b1 b1_k b3) (by kernel_rfl) (by kernel_rfl) (by kernel_rfl) ?_
 unfold Z13c
 refine ⟨rfl, ?_⟩
 refine Tr.post ?_
 refine Tr_tree (kok _ _ _ _ _ _) (E := E_dD_Volumes_r) (L := (loopsOf [(2, Zeb a1 a2_0 a2_1 a2_2 a2_3 b1 b1_k b3, [0, 1, 2, 3, 6, 7, 5], Za4 a1 a2_0 a2_1 a2_2 a2_3 b1 b1_k b3)])) 60 9999 (Z11.oneR (g := rangeIn 0 0) (b := 2) (by kernel_rfl) (by kernel_rfl) (by kernel_rfl) (by kernel_rfl) (fun Q h => Z13a a1 a2_0 a2_1 a2_2 a2_3 b1 b1_k b3 hp0 hp1 hp2 hp3 Q h)) (Z13b a1 a2_0 a2_1 a2_2 a2_3 b1 b1_k b3) (by kernel_rfl) (by kernel_rfl) (by kernel_rfl) ?_
 unfold Z13b
 refine ⟨Z5 (by unfold bytesLim maxLen; (try simp only [List.length_append, List.length_cons, List.length_nil]); omega) (Z9), ?_⟩
 exact ⟨_, Turn.fold 3 4 [] rfl rfl rfl, .inl ⟨rfl, rfl, by kernel_rfl⟩⟩
noncomputable def Z14a : FactY Try.prog := factY 0 [.c (.str), .agg [.int .i64, .str, .int .u64, .mapq 1 2]] (cpsOf 41 [(3, .ptr 3 0)]) [.volsA 2, .dead, .var 32 [] false .vol] (fun t u => true) .normal .normal none none (fun t u => [.vols u.2.1.1 (some (2, u.2.1.2.1)), .dead, .var 32 [] false ⟨.vol, (u.2.2.2.1.1 ++ [(⟨t.2.1, t.2.2.1.1, t.2.2.1.2.1, t.2.2.1.2.2.1, Z22 (sortB (((vget u.2.1.1 u.2.1.2.1).getD default).nodes.map Prod.fst)) []⟩ : XVol)])⟩]) (fun t u => [.vols u.2.1.1 (some (2, u.2.1.2.1)), .dead, .var 32 [] false ⟨.vol, (u.2.2.2.1.1 ++ [(⟨t.2.1, t.2.2.1.1, t.2.2.1.2.1, t.2.2.1.2.2.1, Z22 (sortB (((vget u.2.1.1 u.2.1.2.1).getD default).nodes.map Prod.fst)) []⟩ : XVol)])⟩]) (fun t u => [t.2.2.1.2.2.2.1 = true, (vget u.2.1.1 u.2.1.2.1).isSome = true, NK ((vget u.2.1.1 u.2.1.2.1).getD default).nodes, u.2.2.2.1.1.length ≤ 1000000]) rfl rfl
 (fun t u => by kernel_rfl) (fun t => by kernel_rfl) (fun t u => by kernel_rfl) (fun t u => by kernel_rfl) (fun t u => by kernel_rfl) (fun t u => slots 41 [(3, .ptr 3 0), (15, .str t.2.1), (16, .agg [.int .i64 t.2.2.1.1, .str t.2.2.1.2.1, .int .u64 t.2.2.1.2.2.1, .mapq t.2.2.1.2.2.2.1 1 2])]) (fun t u => by kernel_rfl) (fun t u h => dD_Volumes_r_tr t.2.1 t.2.2.1.1 t.2.2.1.2.1 t.2.2.1.2.2.1 t.2.2.1.2.2.2.1 u.2.1.1 u.2.1.2.1 u.2.2.2.1.1 (h _ mS) (h _ (mN mS)) (h _ (mN (mN mS))) (h _ (mN (mN (mN mS)))))
noncomputable def E_dD_Volumes_it : Env := envOf (P := Try.prog) [box84_fact, sorted103_fact] [] [] ckf false [Z14a]
def Z38 (b2 : LB) : List BA → LV → LV
 | [], v7 => v7
 | o :: r, v7 => Z38 b2 r (v7 ++ [(⟨o, (((vget b2 o).getD default).size), (((vget b2 o).getD default).zone), (((vget b2 o).getD default).tag), Z22 (sortB (((vget b2 o).getD default).nodes.map Prod.fst)) []⟩ : XVol)])
def Z85 (b1 : LA) (b2 : LB) (b3 : LC) (b4 : LD) (i : Nat) (v7 : LV) : St :=
 ⟨slots 21 [(0, .yld 7), (1, .ptr 6 0), (7, .coll ⟨.str, (sortB (b2.map Prod.fst))⟩), (8, .int .i64 ((sortB (b2.map Prod.fst)).length : Int)), (9, .int .i64 (i : Int))], (.cells 102 [.map 1, .map 2, .map 3, .map 4] :: oM b1 b2 b3 b4 [.var 32 [] false ⟨.vol, v7⟩, .cells 98 [.map 2], .loop 0 (slots 41 [(3, .ptr 5 0)]) none])⟩
def Zad (b1 : LA) (b2 : LB) (b3 : LC) (b4 : LD) (i : Nat) (v7 : LV) : RT :=
 (.ask (decide ((i : Int) < ((sortB (b2.map Prod.fst)).length : Int)))
   (.need [0 ≤ (i : Int) ∧ (i : Int) < ((sortB (b2.map Prod.fst)).length : Int)]
     (.ask true
       (.need [((vget b2 ((sortB (b2.map Prod.fst)).getD i default)).isSome) = true, (vget b2 ((sortB (b2.map Prod.fst)).getD i default)).isSome = true, NK ((vget b2 ((sortB (b2.map Prod.fst)).getD i default)).getD default).nodes, v7.length ≤ 1000000]
         (.ask false
           .fail
           (.leaf .normal ⟨slots 21 [(0, .yld 7), (1, .ptr 6 0), (7, .coll ⟨.str, (sortB (b2.map Prod.fst))⟩), (8, .int .i64 ((sortB (b2.map Prod.fst)).length : Int)), (9, .int .i64 (IntKind.i64.wrap ((i : Int) + (1 : Int))))], (.cells 102 [.map 1, .map 2, .map 3, .map 4] :: oM b1 b2 b3 b4 [.var 32 [] false ⟨.vol, (v7 ++ [(⟨((sortB (b2.map Prod.fst)).getD i default), (((vget b2 ((sortB (b2.map Prod.fst)).getD i default)).getD default).size), (((vget b2 ((sortB (b2.map Prod.fst)).getD i default)).getD default).zone), (((vget b2 ((sortB (b2.map Prod.fst)).getD i default)).getD default).tag), Z22 (sortB (((vget b2 ((sortB (b2.map Prod.fst)).getD i default)).getD default).nodes.map Prod.fst)) []⟩ : XVol)])⟩, .cells 98 [.map 2], .loop 0 (slots 41 [(3, .ptr 5 0)]) none])⟩ [])))
       .fail))
   (.leaf (.exit 0) ⟨slots 21 [], (.cells 102 [.map 1, .map 2, .map 3, .map 4] :: oM b1 b2 b3 b4 [.var 32 [] false ⟨.vol, v7⟩, .cells 98 [.map 2], .loop 0 (slots 41 [(3, .ptr 5 0)]) none])⟩ []))
def Z64 (b1 : LA) (b2 : LB) (b3 : LC) (b4 : LD) (i : Nat) (v7 : LV) : Tree :=
 .leaf (.exit 0) ⟨slots 21 [], (.cells 102 [.map 1, .map 2, .map 3, .map 4] :: oM b1 b2 b3 b4 [.var 32 [] false ⟨.vol, Z38 b2 ((sortB (b2.map Prod.fst)).drop i) v7⟩, .cells 98 [.map 2], .loop 0 (slots 41 [(3, .ptr 5 0)]) none])⟩
theorem Z12b (b1 : LA) (b2 : LB) (b3 : LC) (b4 : LD) (hp0 : VB b2) (hlen : (sortB (b2.map Prod.fst)).length < 4611686018427387904) (z : { z : Nat × LV // z.1 ≤ (sortB (b2.map Prod.fst)).length ∧ z.2.length ≤ z.1 }) (Q : Exit → St → Prop) (h : (Z64 b1 b2 b3 b4 z.1.1 z.1.2).All Q) : Tr Try.prog 8 (.loop (loopAt Try.f82 0)) (Z85 b1 b2 b3 b4 z.1.1 z.1.2) Q := by
 refine Tr_loopT (kok _ _ _ _ _ _) (E := E_dD_Volumes_it) (ι := { z : Nat × LV // z.1 ≤ (sortB (b2.map Prod.fst)).length ∧ z.2.length ≤ z.1 }) 60 0 (fun _ => noLoops) (fun z => Z85 b1 b2 b3 b4 z.1.1 z.1.2) (fun z => Z64 b1 b2 b3 b4 z.1.1 z.1.2) (fun z => Zad b1 b2 b3 b4 z.1.1 z.1.2) (fun z => (sortB (b2.map Prod.fst)).length - z.1.1) (fun _ => Z11.none) (fun z => by obtain ⟨⟨i, v7⟩, hi⟩ := z; kernel_rfl) (fun z => by obtain ⟨⟨i, v7⟩, hi⟩ := z; kernel_rfl) (fun z => by obtain ⟨⟨i, v7⟩, hi⟩ := z; kernel_rfl) ?_ z Q h
 rintro ⟨⟨i, v7⟩, hi⟩ Q hT
 replace hT : (Z64 b1 b2 b3 b4 i v7).All Q := hT
 replace hi : i ≤ (sortB (b2.map Prod.fst)).length ∧ v7.length ≤ i := hi
 show (Zad b1 b2 b3 b4 i v7).All _
 unfold Zad
 refine ⟨fun h0 => ?_, fun h0 => ?_⟩
 · have hlt : i < (sortB (b2.map Prod.fst)).length := by simpa using h0
   have hd := drop_getD hlt
   have hw := wrap_succ (i := i) (by omega)
   refine ⟨Z5 (by first | assumption | omega | ((try intro _); (try simp only [decide_eq_true_eq, decide_eq_false_iff_not, Bool.cond_false_right, Bool.cond_true_right, Bool.cond_true_left, Bool.cond_false_left, Bool.and_eq_true, Bool.or_eq_true, Bool.not_eq_true', bytesLim, maxLen, List.length_cons, List.length_nil, List.length_append, byteSize_lit] at *); omega)) (Z9), ?_⟩
   refine ⟨fun h1 => ?_, fun h1 => ?_⟩
   · refine ⟨(by (iterate 2 refine Z5 (by exact vb_some hlt) ?_); refine Z5 (by exact vb_nk hp0 _) ?_; refine Z5 (by (have q := sort_le hp0.1; omega)) ?_; exact Z9), ?_⟩
     refine ⟨fun h2 => ?_, fun h2 => ?_⟩
     · exact absurd h2 (by simp)
     · have hF : Z38 b2 ((sortB (b2.map Prod.fst)).drop i) v7 = Z38 b2 ((sortB (b2.map Prod.fst)).drop (i + 1)) (v7 ++ [(⟨((sortB (b2.map Prod.fst)).getD i default), (((vget b2 ((sortB (b2.map Prod.fst)).getD i default)).getD default).size), (((vget b2 ((sortB (b2.map Prod.fst)).getD i default)).getD default).zone), (((vget b2 ((sortB (b2.map Prod.fst)).getD i default)).getD default).tag), Z22 (sortB (((vget b2 ((sortB (b2.map Prod.fst)).getD i default)).getD default).nodes.map Prod.fst)) []⟩ : XVol)]) := by rw [hd]; first | exact (Z14 h1 (Z7 h2 rfl)) | simp only [Z38, h0, h1, h2, cond_true, cond_false]
       refine ⟨⟨((i + 1), (v7 ++ [(⟨((sortB (b2.map Prod.fst)).getD i default), (((vget b2 ((sortB (b2.map Prod.fst)).getD i default)).getD default).size), (((vget b2 ((sortB (b2.map Prod.fst)).getD i default)).getD default).zone), (((vget b2 ((sortB (b2.map Prod.fst)).getD i default)).getD default).tag), Z22 (sortB (((vget b2 ((sortB (b2.map Prod.fst)).getD i default)).getD default).nodes.map Prod.fst)) []⟩ : XVol)])), by (first | dsimp only | skip); constructor <;> (try simp only [List.length_append, List.length_cons, List.length_nil]) <;> omega⟩, by show (sortB (b2.map Prod.fst)).length - (i + 1) < (sortB (b2.map Prod.fst)).length - i; omega, ?_, ?_⟩
       · show _ = Z85 b1 b2 b3 b4 (i + 1) (v7 ++ [(⟨((sortB (b2.map Prod.fst)).getD i default), (((vget b2 ((sortB (b2.map Prod.fst)).getD i default)).getD default).size), (((vget b2 ((sortB (b2.map Prod.fst)).getD i default)).getD default).zone), (((vget b2 ((sortB (b2.map Prod.fst)).getD i default)).getD default).tag), Z22 (sortB (((vget b2 ((sortB (b2.map Prod.fst)).getD i default)).getD default).nodes.map Prod.fst)) []⟩ : XVol)])
         unfold Z85
         simp only [hw]
       · show (Z64 b1 b2 b3 b4 (i + 1) (v7 ++ [(⟨((sortB (b2.map Prod.fst)).getD i default), (((vget b2 ((sortB (b2.map Prod.fst)).getD i default)).getD default).size), (((vget b2 ((sortB (b2.map Prod.fst)).getD i default)).getD default).zone), (((vget b2 ((sortB (b2.map Prod.fst)).getD i default)).getD default).tag), Z22 (sortB (((vget b2 ((sortB (b2.map Prod.fst)).getD i default)).getD default).nodes.map Prod.fst)) []⟩ : XVol)])).All Q
         unfold Z64 at hT ⊢
         rw [hF] at hT
         exact hT
   · exact absurd h1 (by simp)
 · have hge : ¬ i < (sortB (b2.map Prod.fst)).length := by simpa using h0
   have hd : (sortB (b2.map Prod.fst)).drop i = [] := List.drop_eq_nil_of_le (by omega)
   have hF : Z38 b2 ((sortB (b2.map Prod.fst)).drop i) v7 = v7 := by rw [hd]; first | exact rfl | simp only [Z38, h0, cond_true, cond_false]
   unfold Z64 at hT
   rw [hF] at hT
   exact hT
def Z120 (b1 : LA) (b2 : LB) (b3 : LC) (b4 : LD) : St :=
 ⟨slots 41 [(3, .ptr 5 0), (14, .fn 82 [.ptr 6 0])], (.cells 102 [.map 1, .map 2, .map 3, .map 4] :: oM b1 b2 b3 b4 [.cells 32 [.vec 7], .cells 98 [.map 2], .vec false ⟨.vol, []⟩])⟩
def Z121 (b1 : LA) (b2 : LB) (b3 : LC) (b4 : LD) : RT :=
 (.need [(b2.map Prod.fst).length ≤ 1000000 ∧ ∀ k ∈ (b2.map Prod.fst), k.size ≤ maxLen]
   (.leaf .normal ⟨slots 21 [], (.cells 102 [.map 1, .map 2, .map 3, .map 4] :: oM b1 b2 b3 b4 [.var 32 [] false ⟨.vol, Z38 b2 (sortB (b2.map Prod.fst)) []⟩, .cells 98 [.map 2], .loop 0 (slots 41 [(3, .ptr 5 0)]) none])⟩ []))
def Zbf (b1 : LA) (b2 : LB) (b3 : LC) (b4 : LD) : Tree :=
 .leaf .normal ⟨slots 41 [(3, .ptr 5 0), (14, .fn 82 [.ptr 6 0])], (.cells 102 [.map 1, .map 2, .map 3, .map 4] :: oM b1 b2 b3 b4 [.cells 32 [.vec 8], .cells 98 [.map 2], .dead, .vec false ⟨.vol, Z38 b2 (sortB (b2.map Prod.fst)) []⟩])⟩
theorem Z15c (b1 : LA) (b2 : LB) (b3 : LC) (b4 : LD) (hp0 : VB b2) (Q : Exit → St → Prop) (hT : (Zbf b1 b2 b3 b4).All Q) : Tr Try.prog 5 (loopAt Try.f23 0) (Z120 b1 b2 b3 b4) Q := by
 have hc : loopAt Try.f23 0 = .rangeFunc (.tmp 14) (Globs.site 0).1 (Globs.site 0).2.1 (Globs.site 0).2.2 := by kernel_rfl
 rw [hc]
 refine Tr.pre (Turn.fold 5 7 [] rfl rfl rfl) ?_
 refine Tr.pre (Turn.fits (p := ⟨slots 41 [(3, .ptr 5 0), (14, .fn 82 [.ptr 6 0])], (.cells 102 [.map 1, .map 2, .map 3, .map 4] :: oM b1 b2 b3 b4 [.var 32 [] false ⟨.vol, []⟩, .cells 98 [.map 2]])⟩) [] (by kernel_rfl) (by kernel_rfl) (by kernel_rfl) (by kernel_rfl)) ?_
 refine Tr.post ?_
 refine Tr_range (site := 0) (gf := 82) (fn := Try.f82) (c := bodyOf Try.f82) (cap := [.ptr 6 0]) 7 [3] (slots 41 [(3, .ptr 5 0)]) [.yld 7, .ptr 6 0] (.cells 102 [.map 1, .map 2, .map 3, .map 4] :: oM b1 b2 b3 b4 [.var 32 [] false ⟨.vol, []⟩, .cells 98 [.map 2], .loop 0 (slots 41 [(3, .ptr 5 0)]) none]) rfl (by kernel_rfl) (by kernel_rfl) rfl (by kernel_rfl) (by kernel_rfl) (by kernel_rfl) (by kernel_rfl) (by kernel_rfl) (by kernel_rfl) (by kernel_rfl) (by kernel_rfl) ?_
 refine Tr_tree (kok _ _ _ _ _ _) (E := E_dD_Volumes_it) (L := (loopsOf [(0, Z85 b1 b2 b3 b4 0 [], [], Z64 b1 b2 b3 b4 0 [])])) 60 9999 (Z11.one (g := loopAt Try.f82 0) (b := 0) (by kernel_rfl) (by kernel_rfl) (by kernel_rfl) (by kernel_rfl) (fun Q h => Z12b b1 b2 b3 b4 hp0 (by (have q := sort_le hp0.1; omega)) ⟨(0, []), ⟨Nat.zero_le _, Nat.le_refl _⟩⟩ Q h)) (Z121 b1 b2 b3 b4) (by kernel_rfl) (by kernel_rfl) (by kernel_rfl) ?_
 unfold Z121
 refine ⟨Z5 (by exact hp0.1) (Z9), ?_⟩
 unfold Zbf at hT
 exact ⟨⟨trivial, .tup [], by kernel_rfl⟩, none, (.cells 102 [.map 1, .map 2, .map 3, .map 4] :: oM b1 b2 b3 b4 [.var 32 [] false ⟨.vol, Z38 b2 (sortB (b2.map Prod.fst)) []⟩, .cells 98 [.map 2], .dead]), by kernel_rfl, rfl, by kernel_rfl, by kernel_rfl, by kernel_rfl, by kernel_rfl, ⟨_, Turn.unfold 5 8 rfl (by simp [hset, oM, oV]), hT⟩⟩
noncomputable def E_dD_Volumes : Env := envOf (P := Try.prog) [box54_fact] [] [] ckf true
def Z40 (b1 : LA) (b2 : LB) (b3 : LC) (b4 : LD) : LV :=
 Z38 b2 (sortB (b2.map Prod.fst)) []
def dD_VolumesR (b1 : LA) (b2 : LB) (b3 : LC) (b4 : LD) : RT :=
 (.ask false
   .fail
   (.leaf .ret ⟨slots 41 [(2, .vec 5)], (.cells 102 [.map 1, .map 2, .map 3, .map 4] :: oM b1 b2 b3 b4 [.vec false ⟨.vol, Z38 b2 (sortB (b2.map Prod.fst)) []⟩])⟩ [0, 1, 2, 3, 4, 8]))
theorem dD_VolumesF_tr (b1 : LA) (b2 : LB) (b3 : LC) (b4 : LD) (hp0 : VB b2) : Tr Try.prog 5 (bodyOf Try.f23) (fnBegins Try.f23 [.ptr 0 0] (.cells 102 [.map 1, .map 2, .map 3, .map 4] :: oM b1 b2 b3 b4 [])) (fnEnds Try.prog Try.f23 (.coll ⟨.vol, Z40 b1 b2 b3 b4⟩) (.cells 102 [.map 1, .map 2, .map 3, .map 4] :: oM b1 b2 b3 b4 [])) := by
 refine Tr.post ?_
 refine Tr_tree (kok _ _ _ _ _ _) (E := E_dD_Volumes) (L := (loopsOf [(0, Z120 b1 b2 b3 b4, [0, 1, 2, 3, 4, 6, 8, 7], Zbf b1 b2 b3 b4)])) 60 9999 (Z11.oneR (g := loopAt Try.f23 0) (b := 0) (by kernel_rfl) (by kernel_rfl) (by kernel_rfl) (by kernel_rfl) (fun Q h => Z15c b1 b2 b3 b4 hp0 Q h)) (dD_VolumesR b1 b2 b3 b4) (by kernel_rfl) (by kernel_rfl) (by kernel_rfl) ?_
 unfold dD_VolumesR
 refine ⟨fun h0 => ?_, fun h0 => ?_⟩
 · exact absurd h0 (by simp)
 · have hF : Z40 b1 b2 b3 b4 = (Z38 b2 (sortB (b2.map Prod.fst)) []) := by first | exact rfl | simp only [Z40, h0, cond_true, cond_false]
   exact ⟨_, Turn.frz 5 rfl, trivial, .inr (by (try rw [hF]); kernel_rfl), by (try rw [hF]); kernel_rfl⟩
noncomputable def dD_Volumes_fact : Fact Try.prog := factOf 23 Try.f23 (by kernel_rfl) rfl (by kernel_rfl) [.c (.ptr 0 0)] [.cells 102 [.map 1, .map 2, .map 3, .map 4], .map .str (.int .i64), .vols, .map .str .sn, .map .tgt .done] true (fun t u => .coll ⟨.vol, Z40 u.2.1 u.2.2.1 u.2.2.2.1 u.2.2.2.2.1⟩) (fun t u => HPL.enc _ u) (fun t u => [VB u.2.2.1])
 (fun _ _ _ => rfl) (fun t u => by kernel_rfl) (fun t u => by kernel_rfl) (fun t u h => dD_VolumesF_tr u.2.1 u.2.2.1 u.2.2.2.1 u.2.2.2.2.1 (h _ mS))
noncomputable def E_dD_Snaps_r : Env := envOf (P := Try.prog) [] [] [] ckf true
def dD_Snaps_rQ (a1 : BA) (a2 : XSn) (b1 : LS) : RT :=
 (.leaf .normal ⟨slots 25 [(3, .ptr 1 0), (4, .str a1), (5, .ptr 2 0)], [.dead, .cells 34 [.vec 3], .cells 120 [.int .i64 a2.size, .int .u64 a2.tag], .vec false ⟨.snap, b1⟩]⟩ [0, 1, 3, 2])
def dD_Snaps_rR (a1 : BA) (a2 : XSn) (b1 : LS) : RT :=
 (.need [(b1.length + [(⟨a1, a2.size, a2.tag⟩ : XSnap)].length) * 32 ≤ bytesLim ∧ b1.length + [(⟨a1, a2.size, a2.tag⟩ : XSnap)].length ≤ maxLen]
   (.leaf .normal ⟨slots 25 [], [.dead, .cells 34 [.vec 2], .vec false ⟨.snap, (b1 ++ [(⟨a1, a2.size, a2.tag⟩ : XSnap)])⟩]⟩ [0, 1, 5]))
theorem dD_Snaps_r_tr (a1 : BA) (a2 : XSn) (b1 : LS) (hp0 : b1.length ≤ 1000000) : Tr Try.prog 2 (Globs.site 2).2.1 ⟨slots 25 [(3, .ptr 1 0), (13, .str a1), (14, .agg [.int .i64 a2.size, .int .u64 a2.tag])], .dead :: [.var 34 [] false ⟨.snap, b1⟩]⟩ (fun e s1 => e = .normal ∧ Tr Try.prog 2 (Globs.site 2).2.2 s1 (rdEnds (true) .normal [.var 34 [] false ⟨.snap, (b1 ++ [(⟨a1, a2.size, a2.tag⟩ : XSnap)])⟩] .normal [.var 34 [] false ⟨.snap, (b1 ++ [(⟨a1, a2.size, a2.tag⟩ : XSnap)])⟩])) := by
 refine Tr.pre (Turn.unfold 1 2 rfl (by simp)) ?_
 refine Tr_tree (kok _ _ _ _ _ _) (E := E_dD_Snaps_r) (L := noLoops) 60 9999 Z11.none (dD_Snaps_rQ a1 a2 b1) (by kernel_rfl) (by kernel_rfl) (by kernel_rfl) ?_
 unfold dD_Snaps_rQ
 refine ⟨rfl, ?_⟩
 refine Tr.post ?_
 refine Tr_tree (kok _ _ _ _ _ _) (E := E_dD_Snaps_r) (L := noLoops) 60 9999 Z11.none (dD_Snaps_rR a1 a2 b1) (by kernel_rfl) (by kernel_rfl) (by kernel_rfl) ?_
 unfold dD_Snaps_rR
 refine ⟨Z5 (by unfold bytesLim maxLen; (try simp only [List.length_append, List.length_cons, List.length_nil]); omega) (Z9), ?_⟩
 exact ⟨_, Turn.fold 1 2 [] rfl rfl rfl, .inl ⟨rfl, rfl, by kernel_rfl⟩⟩
noncomputable def dD_Snaps_r_fact : FactY Try.prog := factY 2 [.c (.str), .st .sn] (cpsOf 25 [(3, .ptr 1 0)]) [.var 34 [] false .snap] (fun t u => true) .normal .normal none none (fun t u => [.var 34 [] false ⟨.snap, (u.2.1.1 ++ [(⟨t.2.1, t.2.2.1.size, t.2.2.1.tag⟩ : XSnap)])⟩]) (fun t u => [.var 34 [] false ⟨.snap, (u.2.1.1 ++ [(⟨t.2.1, t.2.2.1.size, t.2.2.1.tag⟩ : XSnap)])⟩]) (fun t u => [u.2.1.1.length ≤ 1000000]) rfl rfl
 (fun t u => by kernel_rfl) (fun t => by kernel_rfl) (fun t u => by kernel_rfl) (fun t u => by kernel_rfl) (fun t u => by kernel_rfl) (fun t u => slots 25 [(3, .ptr 1 0), (13, .str t.2.1), (14, .agg [.int .i64 t.2.2.1.size, .int .u64 t.2.2.1.tag])]) (fun t u => by kernel_rfl) (fun t u h => dD_Snaps_r_tr t.2.1 t.2.2.1 u.2.1.1 (h _ mS))
noncomputable def E_dD_Snaps_it : Env := envOf (P := Try.prog) [box88_fact, sorted105_fact] [] [] ckf false [dD_Snaps_r_fact]
def Z3d (b3 : LC) : List BA → LS → LS
 | [], v7 => v7
 | o :: r, v7 => Z3d b3 r (v7 ++ [(⟨o, ((mget (k := .str) (v := .sn) b3 o).getD default).size, ((mget (k := .str) (v := .sn) b3 o).getD default).tag⟩ : XSnap)])
def Z96 (b1 : LA) (b2 : LB) (b3 : LC) (b4 : LD) (i : Nat) (v7 : LS) : St :=
 ⟨slots 21 [(0, .yld 7), (1, .ptr 6 0), (7, .coll ⟨.str, (sortB (b3.map Prod.fst))⟩), (8, .int .i64 ((sortB (b3.map Prod.fst)).length : Int)), (9, .int .i64 (i : Int))], (.cells 102 [.map 1, .map 2, .map 3, .map 4] :: oM b1 b2 b3 b4 [.var 34 [] false ⟨.snap, v7⟩, .cells 99 [.map 3], .loop 2 (slots 25 [(3, .ptr 5 0)]) none])⟩
def Zda (b1 : LA) (b2 : LB) (b3 : LC) (b4 : LD) (i : Nat) (v7 : LS) : RT :=
 (.ask (decide ((i : Int) < ((sortB (b3.map Prod.fst)).length : Int)))
   (.need [0 ≤ (i : Int) ∧ (i : Int) < ((sortB (b3.map Prod.fst)).length : Int)]
     (.ask true
       (.need [v7.length ≤ 1000000]
         (.ask false
           .fail
           (.leaf .normal ⟨slots 21 [(0, .yld 7), (1, .ptr 6 0), (7, .coll ⟨.str, (sortB (b3.map Prod.fst))⟩), (8, .int .i64 ((sortB (b3.map Prod.fst)).length : Int)), (9, .int .i64 (IntKind.i64.wrap ((i : Int) + (1 : Int))))], (.cells 102 [.map 1, .map 2, .map 3, .map 4] :: oM b1 b2 b3 b4 [.var 34 [] false ⟨.snap, (v7 ++ [(⟨((sortB (b3.map Prod.fst)).getD i default), ((mget (k := .str) (v := .sn) b3 ((sortB (b3.map Prod.fst)).getD i default)).getD default).size, ((mget (k := .str) (v := .sn) b3 ((sortB (b3.map Prod.fst)).getD i default)).getD default).tag⟩ : XSnap)])⟩, .cells 99 [.map 3], .loop 2 (slots 25 [(3, .ptr 5 0)]) none])⟩ [])))
       .fail))
   (.leaf (.exit 0) ⟨slots 21 [], (.cells 102 [.map 1, .map 2, .map 3, .map 4] :: oM b1 b2 b3 b4 [.var 34 [] false ⟨.snap, v7⟩, .cells 99 [.map 3], .loop 2 (slots 25 [(3, .ptr 5 0)]) none])⟩ []))
def Z7c (b1 : LA) (b2 : LB) (b3 : LC) (b4 : LD) (i : Nat) (v7 : LS) : Tree :=
 .leaf (.exit 0) ⟨slots 21 [], (.cells 102 [.map 1, .map 2, .map 3, .map 4] :: oM b1 b2 b3 b4 [.var 34 [] false ⟨.snap, Z3d b3 ((sortB (b3.map Prod.fst)).drop i) v7⟩, .cells 99 [.map 3], .loop 2 (slots 25 [(3, .ptr 5 0)]) none])⟩
theorem Z14c (b1 : LA) (b2 : LB) (b3 : LC) (b4 : LD) (hp0 : NK b3) (hlen : (sortB (b3.map Prod.fst)).length < 4611686018427387904) (z : { z : Nat × LS // z.1 ≤ (sortB (b3.map Prod.fst)).length ∧ z.2.length ≤ z.1 }) (Q : Exit → St → Prop) (h : (Z7c b1 b2 b3 b4 z.1.1 z.1.2).All Q) : Tr Try.prog 8 (.loop (loopAt Try.f87 0)) (Z96 b1 b2 b3 b4 z.1.1 z.1.2) Q := by
 refine Tr_loopT (kok _ _ _ _ _ _) (E := E_dD_Snaps_it) (ι := { z : Nat × LS // z.1 ≤ (sortB (b3.map Prod.fst)).length ∧ z.2.length ≤ z.1 }) 60 0 (fun _ => noLoops) (fun z => Z96 b1 b2 b3 b4 z.1.1 z.1.2) (fun z => Z7c b1 b2 b3 b4 z.1.1 z.1.2) (fun z => Zda b1 b2 b3 b4 z.1.1 z.1.2) (fun z => (sortB (b3.map Prod.fst)).length - z.1.1) (fun _ => Z11.none) (fun z => by obtain ⟨⟨i, v7⟩, hi⟩ := z; kernel_rfl) (fun z => by obtain ⟨⟨i, v7⟩, hi⟩ := z; kernel_rfl) (fun z => by obtain ⟨⟨i, v7⟩, hi⟩ := z; kernel_rfl) ?_ z Q h
 rintro ⟨⟨i, v7⟩, hi⟩ Q hT
 replace hT : (Z7c b1 b2 b3 b4 i v7).All Q := hT
 replace hi : i ≤ (sortB (b3.map Prod.fst)).length ∧ v7.length ≤ i := hi
 show (Zda b1 b2 b3 b4 i v7).All _
 unfold Zda
 refine ⟨fun h0 => ?_, fun h0 => ?_⟩
 · have hlt : i < (sortB (b3.map Prod.fst)).length := by simpa using h0
   have hd := drop_getD hlt
   have hw := wrap_succ (i := i) (by omega)
   refine ⟨Z5 (by first | assumption | omega | ((try intro _); (try simp only [decide_eq_true_eq, decide_eq_false_iff_not, Bool.cond_false_right, Bool.cond_true_right, Bool.cond_true_left, Bool.cond_false_left, Bool.and_eq_true, Bool.or_eq_true, Bool.not_eq_true', bytesLim, maxLen, List.length_cons, List.length_nil, List.length_append, byteSize_lit] at *); omega)) (Z9), ?_⟩
   refine ⟨fun h1 => ?_, fun h1 => ?_⟩
   · refine ⟨Z5 (by (have q := sort_le hp0; omega)) (Z9), ?_⟩
     refine ⟨fun h2 => ?_, fun h2 => ?_⟩
     · exact absurd h2 (by simp)
     · have hF : Z3d b3 ((sortB (b3.map Prod.fst)).drop i) v7 = Z3d b3 ((sortB (b3.map Prod.fst)).drop (i + 1)) (v7 ++ [(⟨((sortB (b3.map Prod.fst)).getD i default), ((mget (k := .str) (v := .sn) b3 ((sortB (b3.map Prod.fst)).getD i default)).getD default).size, ((mget (k := .str) (v := .sn) b3 ((sortB (b3.map Prod.fst)).getD i default)).getD default).tag⟩ : XSnap)]) := by rw [hd]; first | exact (Z14 h1 (Z7 h2 rfl)) | simp only [Z3d, h0, h1, h2, cond_true, cond_false]
       refine ⟨⟨((i + 1), (v7 ++ [(⟨((sortB (b3.map Prod.fst)).getD i default), ((mget (k := .str) (v := .sn) b3 ((sortB (b3.map Prod.fst)).getD i default)).getD default).size, ((mget (k := .str) (v := .sn) b3 ((sortB (b3.map Prod.fst)).getD i default)).getD default).tag⟩ : XSnap)])), by (first | dsimp only | skip); constructor <;> (try simp only [List.length_append, List.length_cons, List.length_nil]) <;> omega⟩, by show (sortB (b3.map Prod.fst)).length - (i + 1) < (sortB (b3.map Prod.fst)).length - i; omega, ?_, ?_⟩
       · show _ = Z96 b1 b2 b3 b4 (i + 1) (v7 ++ [(⟨((sortB (b3.map Prod.fst)).getD i default), ((mget (k := .str) (v := .sn) b3 ((sortB (b3.map Prod.fst)).getD i default)).getD default).size, ((mget (k := .str) (v := .sn) b3 ((sortB (b3.map Prod.fst)).getD i default)).getD default).tag⟩ : XSnap)])
         unfold Z96
         simp only [hw]
       · show (Z7c b1 b2 b3 b4 (i + 1) (v7 ++ [(⟨((sortB (b3.map Prod.fst)).getD i default), ((mget (k := .str) (v := .sn) b3 ((sortB (b3.map Prod.fst)).getD i default)).getD default).size, ((mget (k := .str) (v := .sn) b3 ((sortB (b3.map Prod.fst)).getD i default)).getD default).tag⟩ : XSnap)])).All Q
         unfold Z7c at hT ⊢
         rw [hF] at hT
         exact hT
   · exact absurd h1 (by simp)
 · have hge : ¬ i < (sortB (b3.map Prod.fst)).length := by simpa using h0
   have hd : (sortB (b3.map Prod.fst)).drop i = [] := List.drop_eq_nil_of_le (by omega)
   have hF : Z3d b3 ((sortB (b3.map Prod.fst)).drop i) v7 = v7 := by rw [hd]; first | exact rfl | simp only [Z3d, h0, cond_true, cond_false]
   unfold Z7c at hT
   rw [hF] at hT
   exact hT
def Z14f (b1 : LA) (b2 : LB) (b3 : LC) (b4 : LD) : St :=
 ⟨slots 25 [(3, .ptr 5 0), (12, .fn 87 [.ptr 6 0])], (.cells 102 [.map 1, .map 2, .map 3, .map 4] :: oM b1 b2 b3 b4 [.cells 34 [.vec 7], .cells 99 [.map 3], .vec false ⟨.snap, []⟩])⟩
def Z150 (b1 : LA) (b2 : LB) (b3 : LC) (b4 : LD) : RT :=
 (.need [(b3.map Prod.fst).length ≤ 1000000 ∧ ∀ k ∈ (b3.map Prod.fst), k.size ≤ maxLen]
   (.leaf .normal ⟨slots 21 [], (.cells 102 [.map 1, .map 2, .map 3, .map 4] :: oM b1 b2 b3 b4 [.var 34 [] false ⟨.snap, Z3d b3 (sortB (b3.map Prod.fst)) []⟩, .cells 99 [.map 3], .loop 2 (slots 25 [(3, .ptr 5 0)]) none])⟩ []))
def Z107 (b1 : LA) (b2 : LB) (b3 : LC) (b4 : LD) : Tree :=
 .leaf .normal ⟨slots 25 [(3, .ptr 5 0), (12, .fn 87 [.ptr 6 0])], (.cells 102 [.map 1, .map 2, .map 3, .map 4] :: oM b1 b2 b3 b4 [.cells 34 [.vec 8], .cells 99 [.map 3], .dead, .vec false ⟨.snap, Z3d b3 (sortB (b3.map Prod.fst)) []⟩])⟩
theorem dD_Snaps_it_rg (b1 : LA) (b2 : LB) (b3 : LC) (b4 : LD) (hp0 : NK b3) (Q : Exit → St → Prop) (hT : (Z107 b1 b2 b3 b4).All Q) : Tr Try.prog 5 (loopAt Try.f24 0) (Z14f b1 b2 b3 b4) Q := by
 have hc : loopAt Try.f24 0 = .rangeFunc (.tmp 12) (Globs.site 2).1 (Globs.site 2).2.1 (Globs.site 2).2.2 := by kernel_rfl
 rw [hc]
 refine Tr.pre (Turn.fold 5 7 [] rfl rfl rfl) ?_
 refine Tr.pre (Turn.fits (p := ⟨slots 25 [(3, .ptr 5 0), (12, .fn 87 [.ptr 6 0])], (.cells 102 [.map 1, .map 2, .map 3, .map 4] :: oM b1 b2 b3 b4 [.var 34 [] false ⟨.snap, []⟩, .cells 99 [.map 3]])⟩) [] (by kernel_rfl) (by kernel_rfl) (by kernel_rfl) (by kernel_rfl)) ?_
 refine Tr.post ?_
 refine Tr_range (site := 2) (gf := 87) (fn := Try.f87) (c := bodyOf Try.f87) (cap := [.ptr 6 0]) 7 [3] (slots 25 [(3, .ptr 5 0)]) [.yld 7, .ptr 6 0] (.cells 102 [.map 1, .map 2, .map 3, .map 4] :: oM b1 b2 b3 b4 [.var 34 [] false ⟨.snap, []⟩, .cells 99 [.map 3], .loop 2 (slots 25 [(3, .ptr 5 0)]) none]) rfl (by kernel_rfl) (by kernel_rfl) rfl (by kernel_rfl) (by kernel_rfl) (by kernel_rfl) (by kernel_rfl) (by kernel_rfl) (by kernel_rfl) (by kernel_rfl) (by kernel_rfl) ?_
 refine Tr_tree (kok _ _ _ _ _ _) (E := E_dD_Snaps_it) (L := (loopsOf [(0, Z96 b1 b2 b3 b4 0 [], [], Z7c b1 b2 b3 b4 0 [])])) 60 9999 (Z11.one (g := loopAt Try.f87 0) (b := 0) (by kernel_rfl) (by kernel_rfl) (by kernel_rfl) (by kernel_rfl) (fun Q h => Z14c b1 b2 b3 b4 hp0 (by (have q := sort_le hp0; omega)) ⟨(0, []), ⟨Nat.zero_le _, Nat.le_refl _⟩⟩ Q h)) (Z150 b1 b2 b3 b4) (by kernel_rfl) (by kernel_rfl) (by kernel_rfl) ?_
 unfold Z150
 refine ⟨Z5 (by exact hp0) (Z9), ?_⟩
 unfold Z107 at hT
 exact ⟨⟨trivial, .tup [], by kernel_rfl⟩, none, (.cells 102 [.map 1, .map 2, .map 3, .map 4] :: oM b1 b2 b3 b4 [.var 34 [] false ⟨.snap, Z3d b3 (sortB (b3.map Prod.fst)) []⟩, .cells 99 [.map 3], .dead]), by kernel_rfl, rfl, by kernel_rfl, by kernel_rfl, by kernel_rfl, by kernel_rfl, ⟨_, Turn.unfold 5 8 rfl (by simp [hset, oM, oV]), hT⟩⟩
noncomputable def E_dD_Snaps : Env := envOf (P := Try.prog) [box56_fact] [] [] ckf true
def Z6c (b1 : LA) (b2 : LB) (b3 : LC) (b4 : LD) : LS :=
 Z3d b3 (sortB (b3.map Prod.fst)) []
def dD_SnapsR (b1 : LA) (b2 : LB) (b3 : LC) (b4 : LD) : RT :=
 (.ask false
   .fail
   (.leaf .ret ⟨slots 25 [(2, .vec 5)], (.cells 102 [.map 1, .map 2, .map 3, .map 4] :: oM b1 b2 b3 b4 [.vec false ⟨.snap, Z3d b3 (sortB (b3.map Prod.fst)) []⟩])⟩ [0, 1, 2, 3, 4, 8]))
theorem dD_SnapsF_tr (b1 : LA) (b2 : LB) (b3 : LC) (b4 : LD) (hp0 : NK b3) : Tr Try.prog 5 (bodyOf Try.f24) (fnBegins Try.f24 [.ptr 0 0] (.cells 102 [.map 1, .map 2, .map 3, .map 4] :: oM b1 b2 b3 b4 [])) (fnEnds Try.prog Try.f24 (.coll ⟨.snap, Z6c b1 b2 b3 b4⟩) (.cells 102 [.map 1, .map 2, .map 3, .map 4] :: oM b1 b2 b3 b4 [])) := by
 refine Tr.post ?_
 refine Tr_tree (kok _ _ _ _ _ _) (E := E_dD_Snaps) (L := (loopsOf [(0, Z14f b1 b2 b3 b4, [0, 1, 2, 3, 4, 6, 8, 7], Z107 b1 b2 b3 b4)])) 60 9999 (Z11.oneR (g := loopAt Try.f24 0) (b := 0) (by kernel_rfl) (by kernel_rfl) (by kernel_rfl) (by kernel_rfl) (fun Q h => dD_Snaps_it_rg b1 b2 b3 b4 hp0 Q h)) (dD_SnapsR b1 b2 b3 b4) (by kernel_rfl) (by kernel_rfl) (by kernel_rfl) ?_
 unfold dD_SnapsR
 refine ⟨fun h0 => ?_, fun h0 => ?_⟩
 · exact absurd h0 (by simp)
 · have hF : Z6c b1 b2 b3 b4 = (Z3d b3 (sortB (b3.map Prod.fst)) []) := by first | exact rfl | simp only [Z6c, h0, cond_true, cond_false]
   exact ⟨_, Turn.frz 5 rfl, trivial, .inr (by (try rw [hF]); kernel_rfl), by (try rw [hF]); kernel_rfl⟩
noncomputable def dD_Snaps_fact : Fact Try.prog := factOf 24 Try.f24 (by kernel_rfl) rfl (by kernel_rfl) [.c (.ptr 0 0)] [.cells 102 [.map 1, .map 2, .map 3, .map 4], .map .str (.int .i64), .vols, .map .str .sn, .map .tgt .done] true (fun t u => .coll ⟨.snap, Z6c u.2.1 u.2.2.1 u.2.2.2.1 u.2.2.2.2.1⟩) (fun t u => HPL.enc _ u) (fun t u => [NK u.2.2.2.1])
 (fun _ _ _ => rfl) (fun t u => by kernel_rfl) (fun t u => by kernel_rfl) (fun t u h => dD_SnapsF_tr u.2.1 u.2.2.1 u.2.2.2.1 u.2.2.2.2.1 (h _ mS))
end Go.Proofs.Ytpffbkbadnhmmaa
