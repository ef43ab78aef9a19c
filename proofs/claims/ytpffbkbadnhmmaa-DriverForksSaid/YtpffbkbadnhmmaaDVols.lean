/- The driver: what it tells. -/
import Derived.Test.YtpffbkbadnhmmaaDDo
import Derived.Test.YtpffbkbadnhmmaaDH3
set_option linter.unusedVariables false
set_option linter.unusedSimpArgs false
set_option maxRecDepth 100000
namespace Go.Proofs.Ytpffbkbadnhmmaa
open Go Go.Eng
noncomputable def E_dD_Volumes_r2 : Env := envOf (P := Try.prog) [] [] [] ckf true
def dD_Volumes_r2Q (a1 : ByteArray) (a2 : Bool) (b1 : List ByteArray) (b1_0 : ByteArray) (b1_1 : Int) (b1_2 : ByteArray) (b1_3 : Int) : RT :=
 (.leaf .normal ⟨slots 41 [(6, .ptr 1 0), (7, .str a1)], [.dead, .cells 45 [.str b1_0, .int .i64 b1_1, .str b1_2, .int .u64 b1_3, .vec 2], .vec false ⟨.str, b1⟩]⟩ [])
def dD_Volumes_r2R (a1 : ByteArray) (a2 : Bool) (b1 : List ByteArray) (b1_0 : ByteArray) (b1_1 : Int) (b1_2 : ByteArray) (b1_3 : Int) : RT :=
 (.need [(b1.length + [a1].length) * 16 ≤ bytesLim ∧ b1.length + [a1].length ≤ maxLen]
   (.leaf .normal ⟨slots 41 [], [.dead, .cells 45 [.str b1_0, .int .i64 b1_1, .str b1_2, .int .u64 b1_3, .vec 2], .vec false ⟨.str, (b1 ++ [a1])⟩]⟩ [0, 1, 4]))
theorem dD_Volumes_r2_tr (a1 : ByteArray) (a2 : Bool) (b1 : List ByteArray) (b1_0 : ByteArray) (b1_1 : Int) (b1_2 : ByteArray) (b1_3 : Int) (hp0 : b1.length ≤ 1000000) : Tr Try.prog 2 (Globs.site 1).2.1 ⟨slots 41 [(6, .ptr 1 0), (28, .str a1), (29, .bool a2)], .dead :: [.var 45 [.str b1_0, .int .i64 b1_1, .str b1_2, .int .u64 b1_3] false ⟨.str, b1⟩]⟩ (fun e s1 => e = .normal ∧ Tr Try.prog 2 (Globs.site 1).2.2 s1 (rdEnds (true) .normal [.var 45 [.str b1_0, .int .i64 b1_1, .str b1_2, .int .u64 b1_3] false ⟨.str, (b1 ++ [a1])⟩] .normal [.var 45 [.str b1_0, .int .i64 b1_1, .str b1_2, .int .u64 b1_3] false ⟨.str, (b1 ++ [a1])⟩])) := by
 refine Tr.pre (Turn.unfold 1 2 rfl (by simp)) ?_
 refine Tr_tree (kok _ _ _ _ _ _) (E := E_dD_Volumes_r2) (L := noLoops) 60 9999 Z10.none (dD_Volumes_r2Q a1 a2 b1 b1_0 b1_1 b1_2 b1_3) (by kernel_rfl) (by kernel_rfl) (by kernel_rfl) ?_
 unfold dD_Volumes_r2Q
 refine ⟨rfl, ?_⟩
 refine Tr.post ?_
 refine Tr_tree (kok _ _ _ _ _ _) (E := E_dD_Volumes_r2) (L := noLoops) 60 9999 Z10.none (dD_Volumes_r2R a1 a2 b1 b1_0 b1_1 b1_2 b1_3) (by kernel_rfl) (by kernel_rfl) (by kernel_rfl) ?_
 unfold dD_Volumes_r2R
 refine ⟨Z1 (by unfold bytesLim maxLen; (try simp only [List.length_append, List.length_cons, List.length_nil]); omega) (Z7), ?_⟩
 exact ⟨_, Turn.fold 1 2 [.str b1_0, .int .i64 b1_1, .str b1_2, .int .u64 b1_3] rfl rfl rfl, .inl ⟨rfl, rfl, by kernel_rfl⟩⟩
noncomputable def dD_Volumes_r2_fact : FactY Try.prog := factY 1 [.c (.str), .c (.bool)] (cpsOf 41 [(6, .ptr 1 0)]) [.var 45 [.str, .int .i64, .str, .int .u64] false .str] (fun t u => true) .normal .normal none none (fun t u => [.var 45 [.str u.2.1.2.1, .int .i64 u.2.1.2.2.1, .str u.2.1.2.2.2.1, .int .u64 u.2.1.2.2.2.2.1] false ⟨.str, (u.2.1.1 ++ [t.2.1])⟩]) (fun t u => [.var 45 [.str u.2.1.2.1, .int .i64 u.2.1.2.2.1, .str u.2.1.2.2.2.1, .int .u64 u.2.1.2.2.2.2.1] false ⟨.str, (u.2.1.1 ++ [t.2.1])⟩]) (fun t u => [u.2.1.1.length ≤ 1000000]) rfl rfl
 (fun t u => by kernel_rfl) (fun t => by kernel_rfl) (fun t u => by kernel_rfl) (fun t u => by kernel_rfl) (fun t u => by kernel_rfl) (fun t u => slots 41 [(6, .ptr 1 0), (28, .str t.2.1), (29, .bool t.2.2.1)]) (fun t u => by kernel_rfl) (fun t u h => dD_Volumes_r2_tr t.2.1 t.2.2.1 u.2.1.1 u.2.1.2.1 u.2.1.2.2.1 u.2.1.2.2.2.1 u.2.1.2.2.2.2.1 (h _ List.mem_cons_self))
noncomputable def E_dD_Volumes_r_it : Env := envOf (P := Try.prog) [box86_fact, sorted104_fact] [] [] ckf false [dD_Volumes_r2_fact]
def Z19  : List ByteArray → List ByteArray → List ByteArray
 | [], v6 => v6
 | o :: r, v6 => Z19 r (v6 ++ [o])
def Z5c (a1 : ByteArray) (a2_0 : Int) (a2_1 : ByteArray) (a2_2 : Int) (a2_3 : Bool) (b1 : List (ByteArray × XVn)) (b1_k : ByteArray) (b3 : List XVol) (i : Nat) (v6 : List ByteArray) : St :=
 ⟨slots 21 [(0, .yld 6), (1, .ptr 5 0), (7, .coll ⟨.str, (sortB (((vget b1 b1_k).getD default).nodes.map Prod.fst))⟩), (8, .int .i64 ((sortB (((vget b1 b1_k).getD default).nodes.map Prod.fst)).length : Int)), (9, .int .i64 (i : Int))], [.dead, .vols b1 (some (2, b1_k)), .dead, .var 32 [] false ⟨.vol, b3⟩, .var 45 [.str a1, .int .i64 a2_0, .str a2_1, .int .u64 a2_2] false ⟨.str, v6⟩, .cells 110 [.mapq a2_3 1 2], .loop 1 (slots 41 [(6, .ptr 4 0)]) none]⟩
def dD_Volumes_r_itLR (a1 : ByteArray) (a2_0 : Int) (a2_1 : ByteArray) (a2_2 : Int) (a2_3 : Bool) (b1 : List (ByteArray × XVn)) (b1_k : ByteArray) (b3 : List XVol) (i : Nat) (v6 : List ByteArray) : RT :=
 (.ask (decide ((i : Int) < ((sortB (((vget b1 b1_k).getD default).nodes.map Prod.fst)).length : Int)))
   (.need [0 ≤ (i : Int) ∧ (i : Int) < ((sortB (((vget b1 b1_k).getD default).nodes.map Prod.fst)).length : Int)]
     (.need [a2_3 = (vget b1 b1_k).isSome]
       (.ask true
         (.need [v6.length ≤ 1000000]
           (.ask false
             .fail
             (.leaf .normal ⟨slots 21 [(0, .yld 6), (1, .ptr 5 0), (7, .coll ⟨.str, (sortB (((vget b1 b1_k).getD default).nodes.map Prod.fst))⟩), (8, .int .i64 ((sortB (((vget b1 b1_k).getD default).nodes.map Prod.fst)).length : Int)), (9, .int .i64 (IntKind.i64.wrap ((i : Int) + (1 : Int))))], [.dead, .vols b1 (some (2, b1_k)), .dead, .var 32 [] false ⟨.vol, b3⟩, .var 45 [.str a1, .int .i64 a2_0, .str a2_1, .int .u64 a2_2] false ⟨.str, (v6 ++ [((sortB (((vget b1 b1_k).getD default).nodes.map Prod.fst)).getD i default)])⟩, .cells 110 [.mapq a2_3 1 2], .loop 1 (slots 41 [(6, .ptr 4 0)]) none]⟩ [])))
         .fail)))
   (.leaf (.exit 0) ⟨slots 21 [], [.dead, .vols b1 (some (2, b1_k)), .dead, .var 32 [] false ⟨.vol, b3⟩, .var 45 [.str a1, .int .i64 a2_0, .str a2_1, .int .u64 a2_2] false ⟨.str, v6⟩, .cells 110 [.mapq a2_3 1 2], .loop 1 (slots 41 [(6, .ptr 4 0)]) none]⟩ []))
def Z49 (a1 : ByteArray) (a2_0 : Int) (a2_1 : ByteArray) (a2_2 : Int) (a2_3 : Bool) (b1 : List (ByteArray × XVn)) (b1_k : ByteArray) (b3 : List XVol) (i : Nat) (v6 : List ByteArray) : Tree :=
 .leaf (.exit 0) ⟨slots 21 [], [.dead, .vols b1 (some (2, b1_k)), .dead, .var 32 [] false ⟨.vol, b3⟩, .var 45 [.str a1, .int .i64 a2_0, .str a2_1, .int .u64 a2_2] false ⟨.str, Z19 ((sortB (((vget b1 b1_k).getD default).nodes.map Prod.fst)).drop i) v6⟩, .cells 110 [.mapq a2_3 1 2], .loop 1 (slots 41 [(6, .ptr 4 0)]) none]⟩
theorem dD_Volumes_r_itL_loop (a1 : ByteArray) (a2_0 : Int) (a2_1 : ByteArray) (a2_2 : Int) (a2_3 : Bool) (b1 : List (ByteArray × XVn)) (b1_k : ByteArray) (b3 : List XVol) (hp0 : a2_3 = true) (hp1 : (vget b1 b1_k).isSome = true) (hp2 : NK ((vget b1 b1_k).getD default).nodes) (hp3 : b3.length ≤ 1000000) (hlen : (sortB (((vget b1 b1_k).getD default).nodes.map Prod.fst)).length < 4611686018427387904) (z : { z : Nat × List ByteArray // z.1 ≤ (sortB (((vget b1 b1_k).getD default).nodes.map Prod.fst)).length ∧ z.2.length ≤ z.1 }) (Q : Exit → St → Prop) (h : (Z49 a1 a2_0 a2_1 a2_2 a2_3 b1 b1_k b3 z.1.1 z.1.2).All Q) : Tr Try.prog 7 (.loop (loopAt Try.f85 0)) (Z5c a1 a2_0 a2_1 a2_2 a2_3 b1 b1_k b3 z.1.1 z.1.2) Q := by
 refine Tr_loopT (kok _ _ _ _ _ _) (E := E_dD_Volumes_r_it) (ι := { z : Nat × List ByteArray // z.1 ≤ (sortB (((vget b1 b1_k).getD default).nodes.map Prod.fst)).length ∧ z.2.length ≤ z.1 }) 60 0 (fun _ => noLoops) (fun z => Z5c a1 a2_0 a2_1 a2_2 a2_3 b1 b1_k b3 z.1.1 z.1.2) (fun z => Z49 a1 a2_0 a2_1 a2_2 a2_3 b1 b1_k b3 z.1.1 z.1.2) (fun z => dD_Volumes_r_itLR a1 a2_0 a2_1 a2_2 a2_3 b1 b1_k b3 z.1.1 z.1.2) (fun z => (sortB (((vget b1 b1_k).getD default).nodes.map Prod.fst)).length - z.1.1) (fun _ => Z10.none) (fun z => by obtain ⟨⟨i, v6⟩, hi⟩ := z; kernel_rfl) (fun z => by obtain ⟨⟨i, v6⟩, hi⟩ := z; kernel_rfl) (fun z => by obtain ⟨⟨i, v6⟩, hi⟩ := z; kernel_rfl) ?_ z Q h
 rintro ⟨⟨i, v6⟩, hi⟩ Q hT
 replace hT : (Z49 a1 a2_0 a2_1 a2_2 a2_3 b1 b1_k b3 i v6).All Q := hT
 replace hi : i ≤ (sortB (((vget b1 b1_k).getD default).nodes.map Prod.fst)).length ∧ v6.length ≤ i := hi
 show (dD_Volumes_r_itLR a1 a2_0 a2_1 a2_2 a2_3 b1 b1_k b3 i v6).All _
 unfold dD_Volumes_r_itLR
 refine ⟨fun h0 => ?_, fun h0 => ?_⟩
 · have hlt : i < (sortB (((vget b1 b1_k).getD default).nodes.map Prod.fst)).length := by simpa using h0
   have hd := drop_getD hlt
   have hw := wrap_succ (i := i) (by omega)
   refine ⟨Z1 (by first | assumption | omega | ((try intro _); (try simp only [decide_eq_true_eq, decide_eq_false_iff_not, Bool.cond_false_right, Bool.cond_true_right, Bool.cond_true_left, Bool.cond_false_left, Bool.and_eq_true, Bool.or_eq_true, Bool.not_eq_true', bytesLim, maxLen, List.length_cons, List.length_nil, List.length_append, byteSize_lit] at *); omega)) (Z7), ?_⟩
   refine ⟨Z1 (by rw [hp0, hp1]) (Z7), ?_⟩
   refine ⟨fun h1 => ?_, fun h1 => ?_⟩
   · refine ⟨Z1 (by (have q := sort_le hp2; omega)) (Z7), ?_⟩
     refine ⟨fun h2 => ?_, fun h2 => ?_⟩
     · exact absurd h2 (by simp)
     · have hF : Z19 ((sortB (((vget b1 b1_k).getD default).nodes.map Prod.fst)).drop i) v6 = Z19 ((sortB (((vget b1 b1_k).getD default).nodes.map Prod.fst)).drop (i + 1)) (v6 ++ [((sortB (((vget b1 b1_k).getD default).nodes.map Prod.fst)).getD i default)]) := by rw [hd]; first | exact (Zd h1 (Z4 h2 rfl)) | simp only [Z19, h0, h1, h2, cond_true, cond_false]
       refine ⟨⟨((i + 1), (v6 ++ [((sortB (((vget b1 b1_k).getD default).nodes.map Prod.fst)).getD i default)])), by (first | dsimp only | skip); constructor <;> (try simp only [List.length_append, List.length_cons, List.length_nil]) <;> omega⟩, by show (sortB (((vget b1 b1_k).getD default).nodes.map Prod.fst)).length - (i + 1) < (sortB (((vget b1 b1_k).getD default).nodes.map Prod.fst)).length - i; omega, ?_, ?_⟩
       · show _ = Z5c a1 a2_0 a2_1 a2_2 a2_3 b1 b1_k b3 (i + 1) (v6 ++ [((sortB (((vget b1 b1_k).getD default).nodes.map Prod.fst)).getD i default)])
         unfold Z5c
         simp only [hw]
       · show (Z49 a1 a2_0 a2_1 a2_2 a2_3 b1 b1_k b3 (i + 1) (v6 ++ [((sortB (((vget b1 b1_k).getD default).nodes.map Prod.fst)).getD i default)])).All Q
         unfold Z49 at hT ⊢
         rw [hF] at hT
         exact hT
   · exact absurd h1 (by simp)
 · have hge : ¬ i < (sortB (((vget b1 b1_k).getD default).nodes.map Prod.fst)).length := by simpa using h0
   have hd : (sortB (((vget b1 b1_k).getD default).nodes.map Prod.fst)).drop i = [] := List.drop_eq_nil_of_le (by omega)
   have hF : Z19 ((sortB (((vget b1 b1_k).getD default).nodes.map Prod.fst)).drop i) v6 = v6 := by rw [hd]; first | exact rfl | simp only [Z19, h0, cond_true, cond_false]
   unfold Z49 at hT
   rw [hF] at hT
   exact hT
def dD_Volumes_r_itS (a1 : ByteArray) (a2_0 : Int) (a2_1 : ByteArray) (a2_2 : Int) (a2_3 : Bool) (b1 : List (ByteArray × XVn)) (b1_k : ByteArray) (b3 : List XVol) : St :=
 ⟨slots 41 [(3, .ptr 3 0), (6, .ptr 4 0), (27, .fn 85 [.ptr 5 0])], [.dead, .vols b1 (some (2, b1_k)), .dead, .cells 32 [.vec 6], .cells 45 [.str a1, .int .i64 a2_0, .str a2_1, .int .u64 a2_2, .nils], .cells 110 [.mapq a2_3 1 2], .vec false ⟨.vol, b3⟩]⟩
def dD_Volumes_r_itR (a1 : ByteArray) (a2_0 : Int) (a2_1 : ByteArray) (a2_2 : Int) (a2_3 : Bool) (b1 : List (ByteArray × XVn)) (b1_k : ByteArray) (b3 : List XVol) : RT :=
 (.need [(((vget b1 b1_k).getD default).nodes.map Prod.fst).length ≤ 1000000 ∧ ∀ k ∈ (((vget b1 b1_k).getD default).nodes.map Prod.fst), k.size ≤ maxLen, a2_3 = true ∧ (vget b1 b1_k).isSome = true]
   (.leaf .normal ⟨slots 21 [], [.dead, .vols b1 (some (2, b1_k)), .dead, .var 32 [] false ⟨.vol, b3⟩, .var 45 [.str a1, .int .i64 a2_0, .str a2_1, .int .u64 a2_2] false ⟨.str, Z19 (sortB (((vget b1 b1_k).getD default).nodes.map Prod.fst)) []⟩, .cells 110 [.mapq a2_3 1 2], .loop 1 (slots 41 [(6, .ptr 4 0)]) none]⟩ []))
def dD_Volumes_r_itT (a1 : ByteArray) (a2_0 : Int) (a2_1 : ByteArray) (a2_2 : Int) (a2_3 : Bool) (b1 : List (ByteArray × XVn)) (b1_k : ByteArray) (b3 : List XVol) : Tree :=
 .leaf .normal ⟨slots 41 [(3, .ptr 3 0), (6, .ptr 4 0), (27, .fn 85 [.ptr 5 0])], [.dead, .vols b1 (some (2, b1_k)), .dead, .cells 32 [.vec 7], .cells 45 [.str a1, .int .i64 a2_0, .str a2_1, .int .u64 a2_2, .vec 8], .cells 110 [.mapq a2_3 1 2], .dead, .vec false ⟨.vol, b3⟩, .vec false ⟨.str, Z19 (sortB (((vget b1 b1_k).getD default).nodes.map Prod.fst)) []⟩]⟩
theorem dD_Volumes_r_it_rg (a1 : ByteArray) (a2_0 : Int) (a2_1 : ByteArray) (a2_2 : Int) (a2_3 : Bool) (b1 : List (ByteArray × XVn)) (b1_k : ByteArray) (b3 : List XVol) (hp0 : a2_3 = true) (hp1 : (vget b1 b1_k).isSome = true) (hp2 : NK ((vget b1 b1_k).getD default).nodes) (hp3 : b3.length ≤ 1000000) (Q : Exit → St → Prop) (hT : (dD_Volumes_r_itT a1 a2_0 a2_1 a2_2 a2_3 b1 b1_k b3).All Q) : Tr Try.prog 4 (rangeIn 0 0) (dD_Volumes_r_itS a1 a2_0 a2_1 a2_2 a2_3 b1 b1_k b3) Q := by
 have hc : rangeIn 0 0 = .rangeFunc (.tmp 27) (Globs.site 1).1 (Globs.site 1).2.1 (Globs.site 1).2.2 := by kernel_rfl
 rw [hc]
 refine Tr.pre (Turn.ownNil 4 4 7 .str rfl rfl (by simp)) ?_
 refine Tr.pre (Turn.fold 3 6 [] rfl rfl rfl) ?_
 refine Tr.pre (Turn.fold 4 7 [.str a1, .int .i64 a2_0, .str a2_1, .int .u64 a2_2] rfl rfl rfl) ?_
 refine Tr.pre (Turn.fits (p := ⟨slots 41 [(3, .ptr 3 0), (6, .ptr 4 0), (27, .fn 85 [.ptr 5 0])], [.dead, .vols b1 (some (2, b1_k)), .dead, .var 32 [] false ⟨.vol, b3⟩, .var 45 [.str a1, .int .i64 a2_0, .str a2_1, .int .u64 a2_2] false ⟨.str, []⟩, .cells 110 [.mapq a2_3 1 2]]⟩) [] (by kernel_rfl) (by kernel_rfl) (by kernel_rfl) (by kernel_rfl)) ?_
 refine Tr.post ?_
 refine Tr_range (site := 1) (gf := 85) (fn := Try.f85) (c := bodyOf Try.f85) (cap := [.ptr 5 0]) 6 [6] (slots 41 [(6, .ptr 4 0)]) [.yld 6, .ptr 5 0] [.dead, .vols b1 (some (2, b1_k)), .dead, .var 32 [] false ⟨.vol, b3⟩, .var 45 [.str a1, .int .i64 a2_0, .str a2_1, .int .u64 a2_2] false ⟨.str, []⟩, .cells 110 [.mapq a2_3 1 2], .loop 1 (slots 41 [(6, .ptr 4 0)]) none] rfl (by kernel_rfl) (by kernel_rfl) rfl (by kernel_rfl) (by kernel_rfl) (by kernel_rfl) (by kernel_rfl) (by kernel_rfl) (by kernel_rfl) (by kernel_rfl) (by kernel_rfl) ?_
 refine Tr_tree (kok _ _ _ _ _ _) (E := E_dD_Volumes_r_it) (L := (loopsOf [(0, Z5c a1 a2_0 a2_1 a2_2 a2_3 b1 b1_k b3 0 [], [], Z49 a1 a2_0 a2_1 a2_2 a2_3 b1 b1_k b3 0 [])])) 60 9999 (Z10.one (g := loopAt Try.f85 0) (b := 0) (by kernel_rfl) (by kernel_rfl) (by kernel_rfl) (by kernel_rfl) (fun Q h => dD_Volumes_r_itL_loop a1 a2_0 a2_1 a2_2 a2_3 b1 b1_k b3 hp0 hp1 hp2 hp3 (by (have q := sort_le hp2; omega)) ⟨(0, []), ⟨Nat.zero_le _, Nat.le_refl _⟩⟩ Q h)) (dD_Volumes_r_itR a1 a2_0 a2_1 a2_2 a2_3 b1 b1_k b3) (by kernel_rfl) (by kernel_rfl) (by kernel_rfl) ?_
 unfold dD_Volumes_r_itR
 refine ⟨Z1 (by exact hp2) (Z1 (by exact ⟨hp0, hp1⟩) (Z7)), ?_⟩
 unfold dD_Volumes_r_itT at hT
 exact ⟨⟨trivial, .tup [], by kernel_rfl⟩, none, [.dead, .vols b1 (some (2, b1_k)), .dead, .var 32 [] false ⟨.vol, b3⟩, .var 45 [.str a1, .int .i64 a2_0, .str a2_1, .int .u64 a2_2] false ⟨.str, Z19 (sortB (((vget b1 b1_k).getD default).nodes.map Prod.fst)) []⟩, .cells 110 [.mapq a2_3 1 2], .dead], by kernel_rfl, rfl, by kernel_rfl, by kernel_rfl, by kernel_rfl, by kernel_rfl, ⟨_, Turn.trans (Turn.unfold 3 7 rfl (by simp [hset, oM, oV])) (Turn.unfold 4 8 rfl (by simp [hset, oM, oV])), hT⟩⟩
noncomputable def E_dD_Volumes_r : Env := envOf (P := Try.prog) [box55_fact] [] [] ckf true
def dD_Volumes_rQ (a1 : ByteArray) (a2_0 : Int) (a2_1 : ByteArray) (a2_2 : Int) (a2_3 : Bool) (b1 : List (ByteArray × XVn)) (b1_k : ByteArray) (b3 : List XVol) : RT :=
 (.leaf .normal ⟨slots 41 [(3, .ptr 3 0), (4, .str a1), (5, .ptr 4 0)], [.dead, .vols b1 (some (2, b1_k)), .dead, .cells 32 [.vec 5], .cells 112 [.int .i64 a2_0, .str a2_1, .int .u64 a2_2, .mapq a2_3 1 2], .vec false ⟨.vol, b3⟩]⟩ [0, 1, 2, 3, 5, 4])
def dD_Volumes_rR (a1 : ByteArray) (a2_0 : Int) (a2_1 : ByteArray) (a2_2 : Int) (a2_3 : Bool) (b1 : List (ByteArray × XVn)) (b1_k : ByteArray) (b3 : List XVol) : RT :=
 (.need [(b3.length + [(⟨a1, a2_0, a2_1, a2_2, Z19 (sortB (((vget b1 b1_k).getD default).nodes.map Prod.fst)) []⟩ : XVol)].length) * 72 ≤ bytesLim ∧ b3.length + [(⟨a1, a2_0, a2_1, a2_2, Z19 (sortB (((vget b1 b1_k).getD default).nodes.map Prod.fst)) []⟩ : XVol)].length ≤ maxLen]
   (.leaf .normal ⟨slots 41 [], [.dead, .vols b1 (some (2, b1_k)), .dead, .cells 32 [.vec 4], .vec false ⟨.vol, (b3 ++ [(⟨a1, a2_0, a2_1, a2_2, Z19 (sortB (((vget b1 b1_k).getD default).nodes.map Prod.fst)) []⟩ : XVol)])⟩]⟩ [0, 1, 2, 3, 10]))
theorem dD_Volumes_r_tr (a1 : ByteArray) (a2_0 : Int) (a2_1 : ByteArray) (a2_2 : Int) (a2_3 : Bool) (b1 : List (ByteArray × XVn)) (b1_k : ByteArray) (b3 : List XVol) (hp0 : a2_3 = true) (hp1 : (vget b1 b1_k).isSome = true) (hp2 : NK ((vget b1 b1_k).getD default).nodes) (hp3 : b3.length ≤ 1000000) : Tr Try.prog 4 (Globs.site 0).2.1 ⟨slots 41 [(3, .ptr 3 0), (15, .str a1), (16, .agg [.int .i64 a2_0, .str a2_1, .int .u64 a2_2, .mapq a2_3 1 2])], .dead :: [.vols b1 (some (2, b1_k)), .dead, .var 32 [] false ⟨.vol, b3⟩]⟩ (fun e s1 => e = .normal ∧ Tr Try.prog 4 (Globs.site 0).2.2 s1 (rdEnds (true) .normal [.vols b1 (some (2, b1_k)), .dead, .var 32 [] false ⟨.vol, (b3 ++ [(⟨a1, a2_0, a2_1, a2_2, Z19 (sortB (((vget b1 b1_k).getD default).nodes.map Prod.fst)) []⟩ : XVol)])⟩] .normal [.vols b1 (some (2, b1_k)), .dead, .var 32 [] false ⟨.vol, (b3 ++ [(⟨a1, a2_0, a2_1, a2_2, Z19 (sortB (((vget b1 b1_k).getD default).nodes.map Prod.fst)) []⟩ : XVol)])⟩])) := by
 refine Tr.pre (Turn.unfold 3 4 rfl (by simp)) ?_
 refine Tr_tree (kok _ _ _ _ _ _) (E := E_dD_Volumes_r) (L := noLoops) 60 9999 Z10.none (dD_Volumes_rQ a1 a2_0 a2_1 a2_2 a2_3 b1 b1_k b3) (by kernel_rfl) (by kernel_rfl) (by kernel_rfl) ?_
 unfold dD_Volumes_rQ
 refine ⟨rfl, ?_⟩
 refine Tr.post ?_
 refine Tr_tree (kok _ _ _ _ _ _) (E := E_dD_Volumes_r) (L := (loopsOf [(2, dD_Volumes_r_itS a1 a2_0 a2_1 a2_2 a2_3 b1 b1_k b3, [0, 1, 2, 3, 6, 7, 5], dD_Volumes_r_itT a1 a2_0 a2_1 a2_2 a2_3 b1 b1_k b3)])) 60 9999 (Z10.oneR (g := rangeIn 0 0) (b := 2) (by kernel_rfl) (by kernel_rfl) (by kernel_rfl) (by kernel_rfl) (fun Q h => dD_Volumes_r_it_rg a1 a2_0 a2_1 a2_2 a2_3 b1 b1_k b3 hp0 hp1 hp2 hp3 Q h)) (dD_Volumes_rR a1 a2_0 a2_1 a2_2 a2_3 b1 b1_k b3) (by kernel_rfl) (by kernel_rfl) (by kernel_rfl) ?_
 unfold dD_Volumes_rR
 refine ⟨Z1 (by unfold bytesLim maxLen; (try simp only [List.length_append, List.length_cons, List.length_nil]); omega) (Z7), ?_⟩
 exact ⟨_, Turn.fold 3 4 [] rfl rfl rfl, .inl ⟨rfl, rfl, by kernel_rfl⟩⟩
noncomputable def dD_Volumes_r_fact : FactY Try.prog := factY 0 [.c (.str), .agg [.int .i64, .str, .int .u64, .mapq 1 2]] (cpsOf 41 [(3, .ptr 3 0)]) [.volsA 2, .dead, .var 32 [] false .vol] (fun t u => true) .normal .normal none none (fun t u => [.vols u.2.1.1 (some (2, u.2.1.2.1)), .dead, .var 32 [] false ⟨.vol, (u.2.2.2.1.1 ++ [(⟨t.2.1, t.2.2.1.1, t.2.2.1.2.1, t.2.2.1.2.2.1, Z19 (sortB (((vget u.2.1.1 u.2.1.2.1).getD default).nodes.map Prod.fst)) []⟩ : XVol)])⟩]) (fun t u => [.vols u.2.1.1 (some (2, u.2.1.2.1)), .dead, .var 32 [] false ⟨.vol, (u.2.2.2.1.1 ++ [(⟨t.2.1, t.2.2.1.1, t.2.2.1.2.1, t.2.2.1.2.2.1, Z19 (sortB (((vget u.2.1.1 u.2.1.2.1).getD default).nodes.map Prod.fst)) []⟩ : XVol)])⟩]) (fun t u => [t.2.2.1.2.2.2.1 = true, (vget u.2.1.1 u.2.1.2.1).isSome = true, NK ((vget u.2.1.1 u.2.1.2.1).getD default).nodes, u.2.2.2.1.1.length ≤ 1000000]) rfl rfl
 (fun t u => by kernel_rfl) (fun t => by kernel_rfl) (fun t u => by kernel_rfl) (fun t u => by kernel_rfl) (fun t u => by kernel_rfl) (fun t u => slots 41 [(3, .ptr 3 0), (15, .str t.2.1), (16, .agg [.int .i64 t.2.2.1.1, .str t.2.2.1.2.1, .int .u64 t.2.2.1.2.2.1, .mapq t.2.2.1.2.2.2.1 1 2])]) (fun t u => by kernel_rfl) (fun t u h => dD_Volumes_r_tr t.2.1 t.2.2.1.1 t.2.2.1.2.1 t.2.2.1.2.2.1 t.2.2.1.2.2.2.1 u.2.1.1 u.2.1.2.1 u.2.2.2.1.1 (h _ List.mem_cons_self) (h _ (List.mem_cons_of_mem _ List.mem_cons_self)) (h _ (List.mem_cons_of_mem _ (List.mem_cons_of_mem _ List.mem_cons_self))) (h _ (List.mem_cons_of_mem _ (List.mem_cons_of_mem _ (List.mem_cons_of_mem _ List.mem_cons_self)))))
noncomputable def E_dD_Volumes_it : Env := envOf (P := Try.prog) [box84_fact, sorted103_fact] [] [] ckf false [dD_Volumes_r_fact]
def Z2d (b2 : List (ByteArray × XVn)) : List ByteArray → List XVol → List XVol
 | [], v7 => v7
 | o :: r, v7 => Z2d b2 r (v7 ++ [(⟨o, (((vget b2 o).getD default).size), (((vget b2 o).getD default).zone), (((vget b2 o).getD default).tag), Z19 (sortB (((vget b2 o).getD default).nodes.map Prod.fst)) []⟩ : XVol)])
def Z69 (b1 : List (ByteArray × Int)) (b2 : List (ByteArray × XVn)) (b3 : List (ByteArray × XSn)) (b4 : List (XTgt × XDone)) (i : Nat) (v7 : List XVol) : St :=
 ⟨slots 21 [(0, .yld 7), (1, .ptr 6 0), (7, .coll ⟨.str, (sortB (b2.map Prod.fst))⟩), (8, .int .i64 ((sortB (b2.map Prod.fst)).length : Int)), (9, .int .i64 (i : Int))], (.cells 102 [.map 1, .map 2, .map 3, .map 4] :: oM b1 b2 b3 b4 [.var 32 [] false ⟨.vol, v7⟩, .cells 98 [.map 2], .loop 0 (slots 41 [(3, .ptr 5 0)]) none])⟩
def dD_Volumes_itLR (b1 : List (ByteArray × Int)) (b2 : List (ByteArray × XVn)) (b3 : List (ByteArray × XSn)) (b4 : List (XTgt × XDone)) (i : Nat) (v7 : List XVol) : RT :=
 (.ask (decide ((i : Int) < ((sortB (b2.map Prod.fst)).length : Int)))
   (.need [0 ≤ (i : Int) ∧ (i : Int) < ((sortB (b2.map Prod.fst)).length : Int)]
     (.ask true
       (.need [((vget b2 ((sortB (b2.map Prod.fst)).getD i default)).isSome) = true, (vget b2 ((sortB (b2.map Prod.fst)).getD i default)).isSome = true, NK ((vget b2 ((sortB (b2.map Prod.fst)).getD i default)).getD default).nodes, v7.length ≤ 1000000]
         (.ask false
           .fail
           (.leaf .normal ⟨slots 21 [(0, .yld 7), (1, .ptr 6 0), (7, .coll ⟨.str, (sortB (b2.map Prod.fst))⟩), (8, .int .i64 ((sortB (b2.map Prod.fst)).length : Int)), (9, .int .i64 (IntKind.i64.wrap ((i : Int) + (1 : Int))))], (.cells 102 [.map 1, .map 2, .map 3, .map 4] :: oM b1 b2 b3 b4 [.var 32 [] false ⟨.vol, (v7 ++ [(⟨((sortB (b2.map Prod.fst)).getD i default), (((vget b2 ((sortB (b2.map Prod.fst)).getD i default)).getD default).size), (((vget b2 ((sortB (b2.map Prod.fst)).getD i default)).getD default).zone), (((vget b2 ((sortB (b2.map Prod.fst)).getD i default)).getD default).tag), Z19 (sortB (((vget b2 ((sortB (b2.map Prod.fst)).getD i default)).getD default).nodes.map Prod.fst)) []⟩ : XVol)])⟩, .cells 98 [.map 2], .loop 0 (slots 41 [(3, .ptr 5 0)]) none])⟩ [])))
       .fail))
   (.leaf (.exit 0) ⟨slots 21 [], (.cells 102 [.map 1, .map 2, .map 3, .map 4] :: oM b1 b2 b3 b4 [.var 32 [] false ⟨.vol, v7⟩, .cells 98 [.map 2], .loop 0 (slots 41 [(3, .ptr 5 0)]) none])⟩ []))
def Z50 (b1 : List (ByteArray × Int)) (b2 : List (ByteArray × XVn)) (b3 : List (ByteArray × XSn)) (b4 : List (XTgt × XDone)) (i : Nat) (v7 : List XVol) : Tree :=
 .leaf (.exit 0) ⟨slots 21 [], (.cells 102 [.map 1, .map 2, .map 3, .map 4] :: oM b1 b2 b3 b4 [.var 32 [] false ⟨.vol, Z2d b2 ((sortB (b2.map Prod.fst)).drop i) v7⟩, .cells 98 [.map 2], .loop 0 (slots 41 [(3, .ptr 5 0)]) none])⟩
theorem dD_Volumes_itL_loop (b1 : List (ByteArray × Int)) (b2 : List (ByteArray × XVn)) (b3 : List (ByteArray × XSn)) (b4 : List (XTgt × XDone)) (hp0 : VB b2) (hlen : (sortB (b2.map Prod.fst)).length < 4611686018427387904) (z : { z : Nat × List XVol // z.1 ≤ (sortB (b2.map Prod.fst)).length ∧ z.2.length ≤ z.1 }) (Q : Exit → St → Prop) (h : (Z50 b1 b2 b3 b4 z.1.1 z.1.2).All Q) : Tr Try.prog 8 (.loop (loopAt Try.f82 0)) (Z69 b1 b2 b3 b4 z.1.1 z.1.2) Q := by
 refine Tr_loopT (kok _ _ _ _ _ _) (E := E_dD_Volumes_it) (ι := { z : Nat × List XVol // z.1 ≤ (sortB (b2.map Prod.fst)).length ∧ z.2.length ≤ z.1 }) 60 0 (fun _ => noLoops) (fun z => Z69 b1 b2 b3 b4 z.1.1 z.1.2) (fun z => Z50 b1 b2 b3 b4 z.1.1 z.1.2) (fun z => dD_Volumes_itLR b1 b2 b3 b4 z.1.1 z.1.2) (fun z => (sortB (b2.map Prod.fst)).length - z.1.1) (fun _ => Z10.none) (fun z => by obtain ⟨⟨i, v7⟩, hi⟩ := z; kernel_rfl) (fun z => by obtain ⟨⟨i, v7⟩, hi⟩ := z; kernel_rfl) (fun z => by obtain ⟨⟨i, v7⟩, hi⟩ := z; kernel_rfl) ?_ z Q h
 rintro ⟨⟨i, v7⟩, hi⟩ Q hT
 replace hT : (Z50 b1 b2 b3 b4 i v7).All Q := hT
 replace hi : i ≤ (sortB (b2.map Prod.fst)).length ∧ v7.length ≤ i := hi
 show (dD_Volumes_itLR b1 b2 b3 b4 i v7).All _
 unfold dD_Volumes_itLR
 refine ⟨fun h0 => ?_, fun h0 => ?_⟩
 · have hlt : i < (sortB (b2.map Prod.fst)).length := by simpa using h0
   have hd := drop_getD hlt
   have hw := wrap_succ (i := i) (by omega)
   refine ⟨Z1 (by first | assumption | omega | ((try intro _); (try simp only [decide_eq_true_eq, decide_eq_false_iff_not, Bool.cond_false_right, Bool.cond_true_right, Bool.cond_true_left, Bool.cond_false_left, Bool.and_eq_true, Bool.or_eq_true, Bool.not_eq_true', bytesLim, maxLen, List.length_cons, List.length_nil, List.length_append, byteSize_lit] at *); omega)) (Z7), ?_⟩
   refine ⟨fun h1 => ?_, fun h1 => ?_⟩
   · refine ⟨(by (iterate 2 refine Z1 (by exact vb_some hlt) ?_); refine Z1 (by exact vb_nk hp0 _) ?_; refine Z1 (by (have q := sort_le hp0.1; omega)) ?_; exact Z7), ?_⟩
     refine ⟨fun h2 => ?_, fun h2 => ?_⟩
     · exact absurd h2 (by simp)
     · have hF : Z2d b2 ((sortB (b2.map Prod.fst)).drop i) v7 = Z2d b2 ((sortB (b2.map Prod.fst)).drop (i + 1)) (v7 ++ [(⟨((sortB (b2.map Prod.fst)).getD i default), (((vget b2 ((sortB (b2.map Prod.fst)).getD i default)).getD default).size), (((vget b2 ((sortB (b2.map Prod.fst)).getD i default)).getD default).zone), (((vget b2 ((sortB (b2.map Prod.fst)).getD i default)).getD default).tag), Z19 (sortB (((vget b2 ((sortB (b2.map Prod.fst)).getD i default)).getD default).nodes.map Prod.fst)) []⟩ : XVol)]) := by rw [hd]; first | exact (Zd h1 (Z4 h2 rfl)) | simp only [Z2d, h0, h1, h2, cond_true, cond_false]
       refine ⟨⟨((i + 1), (v7 ++ [(⟨((sortB (b2.map Prod.fst)).getD i default), (((vget b2 ((sortB (b2.map Prod.fst)).getD i default)).getD default).size), (((vget b2 ((sortB (b2.map Prod.fst)).getD i default)).getD default).zone), (((vget b2 ((sortB (b2.map Prod.fst)).getD i default)).getD default).tag), Z19 (sortB (((vget b2 ((sortB (b2.map Prod.fst)).getD i default)).getD default).nodes.map Prod.fst)) []⟩ : XVol)])), by (first | dsimp only | skip); constructor <;> (try simp only [List.length_append, List.length_cons, List.length_nil]) <;> omega⟩, by show (sortB (b2.map Prod.fst)).length - (i + 1) < (sortB (b2.map Prod.fst)).length - i; omega, ?_, ?_⟩
       · show _ = Z69 b1 b2 b3 b4 (i + 1) (v7 ++ [(⟨((sortB (b2.map Prod.fst)).getD i default), (((vget b2 ((sortB (b2.map Prod.fst)).getD i default)).getD default).size), (((vget b2 ((sortB (b2.map Prod.fst)).getD i default)).getD default).zone), (((vget b2 ((sortB (b2.map Prod.fst)).getD i default)).getD default).tag), Z19 (sortB (((vget b2 ((sortB (b2.map Prod.fst)).getD i default)).getD default).nodes.map Prod.fst)) []⟩ : XVol)])
         unfold Z69
         simp only [hw]
       · show (Z50 b1 b2 b3 b4 (i + 1) (v7 ++ [(⟨((sortB (b2.map Prod.fst)).getD i default), (((vget b2 ((sortB (b2.map Prod.fst)).getD i default)).getD default).size), (((vget b2 ((sortB (b2.map Prod.fst)).getD i default)).getD default).zone), (((vget b2 ((sortB (b2.map Prod.fst)).getD i default)).getD default).tag), Z19 (sortB (((vget b2 ((sortB (b2.map Prod.fst)).getD i default)).getD default).nodes.map Prod.fst)) []⟩ : XVol)])).All Q
         unfold Z50 at hT ⊢
         rw [hF] at hT
         exact hT
   · exact absurd h1 (by simp)
 · have hge : ¬ i < (sortB (b2.map Prod.fst)).length := by simpa using h0
   have hd : (sortB (b2.map Prod.fst)).drop i = [] := List.drop_eq_nil_of_le (by omega)
   have hF : Z2d b2 ((sortB (b2.map Prod.fst)).drop i) v7 = v7 := by rw [hd]; first | exact rfl | simp only [Z2d, h0, cond_true, cond_false]
   unfold Z50 at hT
   rw [hF] at hT
   exact hT
def dD_Volumes_itS (b1 : List (ByteArray × Int)) (b2 : List (ByteArray × XVn)) (b3 : List (ByteArray × XSn)) (b4 : List (XTgt × XDone)) : St :=
 ⟨slots 41 [(3, .ptr 5 0), (14, .fn 82 [.ptr 6 0])], (.cells 102 [.map 1, .map 2, .map 3, .map 4] :: oM b1 b2 b3 b4 [.cells 32 [.vec 7], .cells 98 [.map 2], .vec false ⟨.vol, []⟩])⟩
def dD_Volumes_itR (b1 : List (ByteArray × Int)) (b2 : List (ByteArray × XVn)) (b3 : List (ByteArray × XSn)) (b4 : List (XTgt × XDone)) : RT :=
 (.need [(b2.map Prod.fst).length ≤ 1000000 ∧ ∀ k ∈ (b2.map Prod.fst), k.size ≤ maxLen]
   (.leaf .normal ⟨slots 21 [], (.cells 102 [.map 1, .map 2, .map 3, .map 4] :: oM b1 b2 b3 b4 [.var 32 [] false ⟨.vol, Z2d b2 (sortB (b2.map Prod.fst)) []⟩, .cells 98 [.map 2], .loop 0 (slots 41 [(3, .ptr 5 0)]) none])⟩ []))
def dD_Volumes_itT (b1 : List (ByteArray × Int)) (b2 : List (ByteArray × XVn)) (b3 : List (ByteArray × XSn)) (b4 : List (XTgt × XDone)) : Tree :=
 .leaf .normal ⟨slots 41 [(3, .ptr 5 0), (14, .fn 82 [.ptr 6 0])], (.cells 102 [.map 1, .map 2, .map 3, .map 4] :: oM b1 b2 b3 b4 [.cells 32 [.vec 8], .cells 98 [.map 2], .dead, .vec false ⟨.vol, Z2d b2 (sortB (b2.map Prod.fst)) []⟩])⟩
theorem dD_Volumes_it_rg (b1 : List (ByteArray × Int)) (b2 : List (ByteArray × XVn)) (b3 : List (ByteArray × XSn)) (b4 : List (XTgt × XDone)) (hp0 : VB b2) (Q : Exit → St → Prop) (hT : (dD_Volumes_itT b1 b2 b3 b4).All Q) : Tr Try.prog 5 (loopAt Try.f23 0) (dD_Volumes_itS b1 b2 b3 b4) Q := by
 have hc : loopAt Try.f23 0 = .rangeFunc (.tmp 14) (Globs.site 0).1 (Globs.site 0).2.1 (Globs.site 0).2.2 := by kernel_rfl
 rw [hc]
 refine Tr.pre (Turn.fold 5 7 [] rfl rfl rfl) ?_
 refine Tr.pre (Turn.fits (p := ⟨slots 41 [(3, .ptr 5 0), (14, .fn 82 [.ptr 6 0])], (.cells 102 [.map 1, .map 2, .map 3, .map 4] :: oM b1 b2 b3 b4 [.var 32 [] false ⟨.vol, []⟩, .cells 98 [.map 2]])⟩) [] (by kernel_rfl) (by kernel_rfl) (by kernel_rfl) (by kernel_rfl)) ?_
 refine Tr.post ?_
 refine Tr_range (site := 0) (gf := 82) (fn := Try.f82) (c := bodyOf Try.f82) (cap := [.ptr 6 0]) 7 [3] (slots 41 [(3, .ptr 5 0)]) [.yld 7, .ptr 6 0] (.cells 102 [.map 1, .map 2, .map 3, .map 4] :: oM b1 b2 b3 b4 [.var 32 [] false ⟨.vol, []⟩, .cells 98 [.map 2], .loop 0 (slots 41 [(3, .ptr 5 0)]) none]) rfl (by kernel_rfl) (by kernel_rfl) rfl (by kernel_rfl) (by kernel_rfl) (by kernel_rfl) (by kernel_rfl) (by kernel_rfl) (by kernel_rfl) (by kernel_rfl) (by kernel_rfl) ?_
 refine Tr_tree (kok _ _ _ _ _ _) (E := E_dD_Volumes_it) (L := (loopsOf [(0, Z69 b1 b2 b3 b4 0 [], [], Z50 b1 b2 b3 b4 0 [])])) 60 9999 (Z10.one (g := loopAt Try.f82 0) (b := 0) (by kernel_rfl) (by kernel_rfl) (by kernel_rfl) (by kernel_rfl) (fun Q h => dD_Volumes_itL_loop b1 b2 b3 b4 hp0 (by (have q := sort_le hp0.1; omega)) ⟨(0, []), ⟨Nat.zero_le _, Nat.le_refl _⟩⟩ Q h)) (dD_Volumes_itR b1 b2 b3 b4) (by kernel_rfl) (by kernel_rfl) (by kernel_rfl) ?_
 unfold dD_Volumes_itR
 refine ⟨Z1 (by exact hp0.1) (Z7), ?_⟩
 unfold dD_Volumes_itT at hT
 exact ⟨⟨trivial, .tup [], by kernel_rfl⟩, none, (.cells 102 [.map 1, .map 2, .map 3, .map 4] :: oM b1 b2 b3 b4 [.var 32 [] false ⟨.vol, Z2d b2 (sortB (b2.map Prod.fst)) []⟩, .cells 98 [.map 2], .dead]), by kernel_rfl, rfl, by kernel_rfl, by kernel_rfl, by kernel_rfl, by kernel_rfl, ⟨_, Turn.unfold 5 8 rfl (by simp [hset, oM, oV]), hT⟩⟩
noncomputable def E_dD_Volumes : Env := envOf (P := Try.prog) [box54_fact] [] [] ckf true
def Z17 (b1 : List (ByteArray × Int)) (b2 : List (ByteArray × XVn)) (b3 : List (ByteArray × XSn)) (b4 : List (XTgt × XDone)) : List XVol :=
 Z2d b2 (sortB (b2.map Prod.fst)) []
def dD_VolumesR (b1 : List (ByteArray × Int)) (b2 : List (ByteArray × XVn)) (b3 : List (ByteArray × XSn)) (b4 : List (XTgt × XDone)) : RT :=
 (.ask false
   .fail
   (.leaf .ret ⟨slots 41 [(2, .vec 5)], (.cells 102 [.map 1, .map 2, .map 3, .map 4] :: oM b1 b2 b3 b4 [.vec false ⟨.vol, Z2d b2 (sortB (b2.map Prod.fst)) []⟩])⟩ [0, 1, 2, 3, 4, 8]))
theorem dD_VolumesF_tr (b1 : List (ByteArray × Int)) (b2 : List (ByteArray × XVn)) (b3 : List (ByteArray × XSn)) (b4 : List (XTgt × XDone)) (hp0 : VB b2) : Tr Try.prog 5 (bodyOf Try.f23) (fnBegins Try.f23 [.ptr 0 0] (.cells 102 [.map 1, .map 2, .map 3, .map 4] :: oM b1 b2 b3 b4 [])) (fnEnds Try.prog Try.f23 (.coll ⟨.vol, Z17 b1 b2 b3 b4⟩) (.cells 102 [.map 1, .map 2, .map 3, .map 4] :: oM b1 b2 b3 b4 [])) := by
 refine Tr.post ?_
 refine Tr_tree (kok _ _ _ _ _ _) (E := E_dD_Volumes) (L := (loopsOf [(0, dD_Volumes_itS b1 b2 b3 b4, [0, 1, 2, 3, 4, 6, 8, 7], dD_Volumes_itT b1 b2 b3 b4)])) 60 9999 (Z10.oneR (g := loopAt Try.f23 0) (b := 0) (by kernel_rfl) (by kernel_rfl) (by kernel_rfl) (by kernel_rfl) (fun Q h => dD_Volumes_it_rg b1 b2 b3 b4 hp0 Q h)) (dD_VolumesR b1 b2 b3 b4) (by kernel_rfl) (by kernel_rfl) (by kernel_rfl) ?_
 unfold dD_VolumesR
 refine ⟨fun h0 => ?_, fun h0 => ?_⟩
 · exact absurd h0 (by simp)
 · have hF : Z17 b1 b2 b3 b4 = (Z2d b2 (sortB (b2.map Prod.fst)) []) := by first | exact rfl | simp only [Z17, h0, cond_true, cond_false]
   exact ⟨_, Turn.frz 5 rfl, trivial, .inr (by (try rw [hF]); kernel_rfl), by (try rw [hF]); kernel_rfl⟩
noncomputable def dD_Volumes_fact : Fact Try.prog := factOf 23 Try.f23 (by kernel_rfl) rfl (by kernel_rfl) [.c (.ptr 0 0)] [.cells 102 [.map 1, .map 2, .map 3, .map 4], .map .str (.int .i64), .vols, .map .str .sn, .map .tgt .done] true (fun t u => .coll ⟨.vol, Z17 u.2.1 u.2.2.1 u.2.2.2.1 u.2.2.2.2.1⟩) (fun t u => HPL.enc _ u) (fun t u => [VB u.2.2.1])
 (fun _ _ _ => rfl) (fun t u => by kernel_rfl) (fun t u => by kernel_rfl) (fun t u h => dD_VolumesF_tr u.2.1 u.2.2.1 u.2.2.2.1 u.2.2.2.2.1 (h _ List.mem_cons_self))
noncomputable def E_dD_Snaps_r : Env := envOf (P := Try.prog) [] [] [] ckf true
def dD_Snaps_rQ (a1 : ByteArray) (a2 : XSn) (b1 : List XSnap) : RT :=
 (.leaf .normal ⟨slots 25 [(3, .ptr 1 0), (4, .str a1), (5, .ptr 2 0)], [.dead, .cells 34 [.vec 3], .cells 120 [.int .i64 a2.size, .int .u64 a2.tag], .vec false ⟨.snap, b1⟩]⟩ [0, 1, 3, 2])
def dD_Snaps_rR (a1 : ByteArray) (a2 : XSn) (b1 : List XSnap) : RT :=
 (.need [(b1.length + [(⟨a1, a2.size, a2.tag⟩ : XSnap)].length) * 32 ≤ bytesLim ∧ b1.length + [(⟨a1, a2.size, a2.tag⟩ : XSnap)].length ≤ maxLen]
   (.leaf .normal ⟨slots 25 [], [.dead, .cells 34 [.vec 2], .vec false ⟨.snap, (b1 ++ [(⟨a1, a2.size, a2.tag⟩ : XSnap)])⟩]⟩ [0, 1, 5]))
theorem dD_Snaps_r_tr (a1 : ByteArray) (a2 : XSn) (b1 : List XSnap) (hp0 : b1.length ≤ 1000000) : Tr Try.prog 2 (Globs.site 2).2.1 ⟨slots 25 [(3, .ptr 1 0), (13, .str a1), (14, .agg [.int .i64 a2.size, .int .u64 a2.tag])], .dead :: [.var 34 [] false ⟨.snap, b1⟩]⟩ (fun e s1 => e = .normal ∧ Tr Try.prog 2 (Globs.site 2).2.2 s1 (rdEnds (true) .normal [.var 34 [] false ⟨.snap, (b1 ++ [(⟨a1, a2.size, a2.tag⟩ : XSnap)])⟩] .normal [.var 34 [] false ⟨.snap, (b1 ++ [(⟨a1, a2.size, a2.tag⟩ : XSnap)])⟩])) := by
 refine Tr.pre (Turn.unfold 1 2 rfl (by simp)) ?_
 refine Tr_tree (kok _ _ _ _ _ _) (E := E_dD_Snaps_r) (L := noLoops) 60 9999 Z10.none (dD_Snaps_rQ a1 a2 b1) (by kernel_rfl) (by kernel_rfl) (by kernel_rfl) ?_
 unfold dD_Snaps_rQ
 refine ⟨rfl, ?_⟩
 refine Tr.post ?_
 refine Tr_tree (kok _ _ _ _ _ _) (E := E_dD_Snaps_r) (L := noLoops) 60 9999 Z10.none (dD_Snaps_rR a1 a2 b1) (by kernel_rfl) (by kernel_rfl) (by kernel_rfl) ?_
 unfold dD_Snaps_rR
 refine ⟨Z1 (by unfold bytesLim maxLen; (try simp only [List.length_append, List.length_cons, List.length_nil]); omega) (Z7), ?_⟩
 exact ⟨_, Turn.fold 1 2 [] rfl rfl rfl, .inl ⟨rfl, rfl, by kernel_rfl⟩⟩
noncomputable def dD_Snaps_r_fact : FactY Try.prog := factY 2 [.c (.str), .st .sn] (cpsOf 25 [(3, .ptr 1 0)]) [.var 34 [] false .snap] (fun t u => true) .normal .normal none none (fun t u => [.var 34 [] false ⟨.snap, (u.2.1.1 ++ [(⟨t.2.1, t.2.2.1.size, t.2.2.1.tag⟩ : XSnap)])⟩]) (fun t u => [.var 34 [] false ⟨.snap, (u.2.1.1 ++ [(⟨t.2.1, t.2.2.1.size, t.2.2.1.tag⟩ : XSnap)])⟩]) (fun t u => [u.2.1.1.length ≤ 1000000]) rfl rfl
 (fun t u => by kernel_rfl) (fun t => by kernel_rfl) (fun t u => by kernel_rfl) (fun t u => by kernel_rfl) (fun t u => by kernel_rfl) (fun t u => slots 25 [(3, .ptr 1 0), (13, .str t.2.1), (14, .agg [.int .i64 t.2.2.1.size, .int .u64 t.2.2.1.tag])]) (fun t u => by kernel_rfl) (fun t u h => dD_Snaps_r_tr t.2.1 t.2.2.1 u.2.1.1 (h _ List.mem_cons_self))
noncomputable def E_dD_Snaps_it : Env := envOf (P := Try.prog) [box88_fact, sorted105_fact] [] [] ckf false [dD_Snaps_r_fact]
def Z32 (b3 : List (ByteArray × XSn)) : List ByteArray → List XSnap → List XSnap
 | [], v7 => v7
 | o :: r, v7 => Z32 b3 r (v7 ++ [(⟨o, ((mget (k := .str) (v := .sn) b3 o).getD default).size, ((mget (k := .str) (v := .sn) b3 o).getD default).tag⟩ : XSnap)])
def dD_Snaps_itLS (b1 : List (ByteArray × Int)) (b2 : List (ByteArray × XVn)) (b3 : List (ByteArray × XSn)) (b4 : List (XTgt × XDone)) (i : Nat) (v7 : List XSnap) : St :=
 ⟨slots 21 [(0, .yld 7), (1, .ptr 6 0), (7, .coll ⟨.str, (sortB (b3.map Prod.fst))⟩), (8, .int .i64 ((sortB (b3.map Prod.fst)).length : Int)), (9, .int .i64 (i : Int))], (.cells 102 [.map 1, .map 2, .map 3, .map 4] :: oM b1 b2 b3 b4 [.var 34 [] false ⟨.snap, v7⟩, .cells 99 [.map 3], .loop 2 (slots 25 [(3, .ptr 5 0)]) none])⟩
def dD_Snaps_itLR (b1 : List (ByteArray × Int)) (b2 : List (ByteArray × XVn)) (b3 : List (ByteArray × XSn)) (b4 : List (XTgt × XDone)) (i : Nat) (v7 : List XSnap) : RT :=
 (.ask (decide ((i : Int) < ((sortB (b3.map Prod.fst)).length : Int)))
   (.need [0 ≤ (i : Int) ∧ (i : Int) < ((sortB (b3.map Prod.fst)).length : Int)]
     (.ask true
       (.need [v7.length ≤ 1000000]
         (.ask false
           .fail
           (.leaf .normal ⟨slots 21 [(0, .yld 7), (1, .ptr 6 0), (7, .coll ⟨.str, (sortB (b3.map Prod.fst))⟩), (8, .int .i64 ((sortB (b3.map Prod.fst)).length : Int)), (9, .int .i64 (IntKind.i64.wrap ((i : Int) + (1 : Int))))], (.cells 102 [.map 1, .map 2, .map 3, .map 4] :: oM b1 b2 b3 b4 [.var 34 [] false ⟨.snap, (v7 ++ [(⟨((sortB (b3.map Prod.fst)).getD i default), ((mget (k := .str) (v := .sn) b3 ((sortB (b3.map Prod.fst)).getD i default)).getD default).size, ((mget (k := .str) (v := .sn) b3 ((sortB (b3.map Prod.fst)).getD i default)).getD default).tag⟩ : XSnap)])⟩, .cells 99 [.map 3], .loop 2 (slots 25 [(3, .ptr 5 0)]) none])⟩ [])))
       .fail))
   (.leaf (.exit 0) ⟨slots 21 [], (.cells 102 [.map 1, .map 2, .map 3, .map 4] :: oM b1 b2 b3 b4 [.var 34 [] false ⟨.snap, v7⟩, .cells 99 [.map 3], .loop 2 (slots 25 [(3, .ptr 5 0)]) none])⟩ []))
def Z61 (b1 : List (ByteArray × Int)) (b2 : List (ByteArray × XVn)) (b3 : List (ByteArray × XSn)) (b4 : List (XTgt × XDone)) (i : Nat) (v7 : List XSnap) : Tree :=
 .leaf (.exit 0) ⟨slots 21 [], (.cells 102 [.map 1, .map 2, .map 3, .map 4] :: oM b1 b2 b3 b4 [.var 34 [] false ⟨.snap, Z32 b3 ((sortB (b3.map Prod.fst)).drop i) v7⟩, .cells 99 [.map 3], .loop 2 (slots 25 [(3, .ptr 5 0)]) none])⟩
theorem dD_Snaps_itL_loop (b1 : List (ByteArray × Int)) (b2 : List (ByteArray × XVn)) (b3 : List (ByteArray × XSn)) (b4 : List (XTgt × XDone)) (hp0 : NK b3) (hlen : (sortB (b3.map Prod.fst)).length < 4611686018427387904) (z : { z : Nat × List XSnap // z.1 ≤ (sortB (b3.map Prod.fst)).length ∧ z.2.length ≤ z.1 }) (Q : Exit → St → Prop) (h : (Z61 b1 b2 b3 b4 z.1.1 z.1.2).All Q) : Tr Try.prog 8 (.loop (loopAt Try.f87 0)) (dD_Snaps_itLS b1 b2 b3 b4 z.1.1 z.1.2) Q := by
 refine Tr_loopT (kok _ _ _ _ _ _) (E := E_dD_Snaps_it) (ι := { z : Nat × List XSnap // z.1 ≤ (sortB (b3.map Prod.fst)).length ∧ z.2.length ≤ z.1 }) 60 0 (fun _ => noLoops) (fun z => dD_Snaps_itLS b1 b2 b3 b4 z.1.1 z.1.2) (fun z => Z61 b1 b2 b3 b4 z.1.1 z.1.2) (fun z => dD_Snaps_itLR b1 b2 b3 b4 z.1.1 z.1.2) (fun z => (sortB (b3.map Prod.fst)).length - z.1.1) (fun _ => Z10.none) (fun z => by obtain ⟨⟨i, v7⟩, hi⟩ := z; kernel_rfl) (fun z => by obtain ⟨⟨i, v7⟩, hi⟩ := z; kernel_rfl) (fun z => by obtain ⟨⟨i, v7⟩, hi⟩ := z; kernel_rfl) ?_ z Q h
 rintro ⟨⟨i, v7⟩, hi⟩ Q hT
 replace hT : (Z61 b1 b2 b3 b4 i v7).All Q := hT
 replace hi : i ≤ (sortB (b3.map Prod.fst)).length ∧ v7.length ≤ i := hi
 show (dD_Snaps_itLR b1 b2 b3 b4 i v7).All _
 unfold dD_Snaps_itLR
 refine ⟨fun h0 => ?_, fun h0 => ?_⟩
 · have hlt : i < (sortB (b3.map Prod.fst)).length := by simpa using h0
   have hd := drop_getD hlt
   have hw := wrap_succ (i := i) (by omega)
   refine ⟨Z1 (by first | assumption | omega | ((try intro _); (try simp only [decide_eq_true_eq, decide_eq_false_iff_not, Bool.cond_false_right, Bool.cond_true_right, Bool.cond_true_left, Bool.cond_false_left, Bool.and_eq_true, Bool.or_eq_true, Bool.not_eq_true', bytesLim, maxLen, List.length_cons, List.length_nil, List.length_append, byteSize_lit] at *); omega)) (Z7), ?_⟩
   refine ⟨fun h1 => ?_, fun h1 => ?_⟩
   · refine ⟨Z1 (by (have q := sort_le hp0; omega)) (Z7), ?_⟩
     refine ⟨fun h2 => ?_, fun h2 => ?_⟩
     · exact absurd h2 (by simp)
     · have hF : Z32 b3 ((sortB (b3.map Prod.fst)).drop i) v7 = Z32 b3 ((sortB (b3.map Prod.fst)).drop (i + 1)) (v7 ++ [(⟨((sortB (b3.map Prod.fst)).getD i default), ((mget (k := .str) (v := .sn) b3 ((sortB (b3.map Prod.fst)).getD i default)).getD default).size, ((mget (k := .str) (v := .sn) b3 ((sortB (b3.map Prod.fst)).getD i default)).getD default).tag⟩ : XSnap)]) := by rw [hd]; first | exact (Zd h1 (Z4 h2 rfl)) | simp only [Z32, h0, h1, h2, cond_true, cond_false]
       refine ⟨⟨((i + 1), (v7 ++ [(⟨((sortB (b3.map Prod.fst)).getD i default), ((mget (k := .str) (v := .sn) b3 ((sortB (b3.map Prod.fst)).getD i default)).getD default).size, ((mget (k := .str) (v := .sn) b3 ((sortB (b3.map Prod.fst)).getD i default)).getD default).tag⟩ : XSnap)])), by (first | dsimp only | skip); constructor <;> (try simp only [List.length_append, List.length_cons, List.length_nil]) <;> omega⟩, by show (sortB (b3.map Prod.fst)).length - (i + 1) < (sortB (b3.map Prod.fst)).length - i; omega, ?_, ?_⟩
       · show _ = dD_Snaps_itLS b1 b2 b3 b4 (i + 1) (v7 ++ [(⟨((sortB (b3.map Prod.fst)).getD i default), ((mget (k := .str) (v := .sn) b3 ((sortB (b3.map Prod.fst)).getD i default)).getD default).size, ((mget (k := .str) (v := .sn) b3 ((sortB (b3.map Prod.fst)).getD i default)).getD default).tag⟩ : XSnap)])
         unfold dD_Snaps_itLS
         simp only [hw]
       · show (Z61 b1 b2 b3 b4 (i + 1) (v7 ++ [(⟨((sortB (b3.map Prod.fst)).getD i default), ((mget (k := .str) (v := .sn) b3 ((sortB (b3.map Prod.fst)).getD i default)).getD default).size, ((mget (k := .str) (v := .sn) b3 ((sortB (b3.map Prod.fst)).getD i default)).getD default).tag⟩ : XSnap)])).All Q
         unfold Z61 at hT ⊢
         rw [hF] at hT
         exact hT
   · exact absurd h1 (by simp)
 · have hge : ¬ i < (sortB (b3.map Prod.fst)).length := by simpa using h0
   have hd : (sortB (b3.map Prod.fst)).drop i = [] := List.drop_eq_nil_of_le (by omega)
   have hF : Z32 b3 ((sortB (b3.map Prod.fst)).drop i) v7 = v7 := by rw [hd]; first | exact rfl | simp only [Z32, h0, cond_true, cond_false]
   unfold Z61 at hT
   rw [hF] at hT
   exact hT
def dD_Snaps_itS (b1 : List (ByteArray × Int)) (b2 : List (ByteArray × XVn)) (b3 : List (ByteArray × XSn)) (b4 : List (XTgt × XDone)) : St :=
 ⟨slots 25 [(3, .ptr 5 0), (12, .fn 87 [.ptr 6 0])], (.cells 102 [.map 1, .map 2, .map 3, .map 4] :: oM b1 b2 b3 b4 [.cells 34 [.vec 7], .cells 99 [.map 3], .vec false ⟨.snap, []⟩])⟩
def dD_Snaps_itR (b1 : List (ByteArray × Int)) (b2 : List (ByteArray × XVn)) (b3 : List (ByteArray × XSn)) (b4 : List (XTgt × XDone)) : RT :=
 (.need [(b3.map Prod.fst).length ≤ 1000000 ∧ ∀ k ∈ (b3.map Prod.fst), k.size ≤ maxLen]
   (.leaf .normal ⟨slots 21 [], (.cells 102 [.map 1, .map 2, .map 3, .map 4] :: oM b1 b2 b3 b4 [.var 34 [] false ⟨.snap, Z32 b3 (sortB (b3.map Prod.fst)) []⟩, .cells 99 [.map 3], .loop 2 (slots 25 [(3, .ptr 5 0)]) none])⟩ []))
def dD_Snaps_itT (b1 : List (ByteArray × Int)) (b2 : List (ByteArray × XVn)) (b3 : List (ByteArray × XSn)) (b4 : List (XTgt × XDone)) : Tree :=
 .leaf .normal ⟨slots 25 [(3, .ptr 5 0), (12, .fn 87 [.ptr 6 0])], (.cells 102 [.map 1, .map 2, .map 3, .map 4] :: oM b1 b2 b3 b4 [.cells 34 [.vec 8], .cells 99 [.map 3], .dead, .vec false ⟨.snap, Z32 b3 (sortB (b3.map Prod.fst)) []⟩])⟩
theorem dD_Snaps_it_rg (b1 : List (ByteArray × Int)) (b2 : List (ByteArray × XVn)) (b3 : List (ByteArray × XSn)) (b4 : List (XTgt × XDone)) (hp0 : NK b3) (Q : Exit → St → Prop) (hT : (dD_Snaps_itT b1 b2 b3 b4).All Q) : Tr Try.prog 5 (loopAt Try.f24 0) (dD_Snaps_itS b1 b2 b3 b4) Q := by
 have hc : loopAt Try.f24 0 = .rangeFunc (.tmp 12) (Globs.site 2).1 (Globs.site 2).2.1 (Globs.site 2).2.2 := by kernel_rfl
 rw [hc]
 refine Tr.pre (Turn.fold 5 7 [] rfl rfl rfl) ?_
 refine Tr.pre (Turn.fits (p := ⟨slots 25 [(3, .ptr 5 0), (12, .fn 87 [.ptr 6 0])], (.cells 102 [.map 1, .map 2, .map 3, .map 4] :: oM b1 b2 b3 b4 [.var 34 [] false ⟨.snap, []⟩, .cells 99 [.map 3]])⟩) [] (by kernel_rfl) (by kernel_rfl) (by kernel_rfl) (by kernel_rfl)) ?_
 refine Tr.post ?_
 refine Tr_range (site := 2) (gf := 87) (fn := Try.f87) (c := bodyOf Try.f87) (cap := [.ptr 6 0]) 7 [3] (slots 25 [(3, .ptr 5 0)]) [.yld 7, .ptr 6 0] (.cells 102 [.map 1, .map 2, .map 3, .map 4] :: oM b1 b2 b3 b4 [.var 34 [] false ⟨.snap, []⟩, .cells 99 [.map 3], .loop 2 (slots 25 [(3, .ptr 5 0)]) none]) rfl (by kernel_rfl) (by kernel_rfl) rfl (by kernel_rfl) (by kernel_rfl) (by kernel_rfl) (by kernel_rfl) (by kernel_rfl) (by kernel_rfl) (by kernel_rfl) (by kernel_rfl) ?_
 refine Tr_tree (kok _ _ _ _ _ _) (E := E_dD_Snaps_it) (L := (loopsOf [(0, dD_Snaps_itLS b1 b2 b3 b4 0 [], [], Z61 b1 b2 b3 b4 0 [])])) 60 9999 (Z10.one (g := loopAt Try.f87 0) (b := 0) (by kernel_rfl) (by kernel_rfl) (by kernel_rfl) (by kernel_rfl) (fun Q h => dD_Snaps_itL_loop b1 b2 b3 b4 hp0 (by (have q := sort_le hp0; omega)) ⟨(0, []), ⟨Nat.zero_le _, Nat.le_refl _⟩⟩ Q h)) (dD_Snaps_itR b1 b2 b3 b4) (by kernel_rfl) (by kernel_rfl) (by kernel_rfl) ?_
 unfold dD_Snaps_itR
 refine ⟨Z1 (by exact hp0) (Z7), ?_⟩
 unfold dD_Snaps_itT at hT
 exact ⟨⟨trivial, .tup [], by kernel_rfl⟩, none, (.cells 102 [.map 1, .map 2, .map 3, .map 4] :: oM b1 b2 b3 b4 [.var 34 [] false ⟨.snap, Z32 b3 (sortB (b3.map Prod.fst)) []⟩, .cells 99 [.map 3], .dead]), by kernel_rfl, rfl, by kernel_rfl, by kernel_rfl, by kernel_rfl, by kernel_rfl, ⟨_, Turn.unfold 5 8 rfl (by simp [hset, oM, oV]), hT⟩⟩
noncomputable def E_dD_Snaps : Env := envOf (P := Try.prog) [box56_fact] [] [] ckf true
def Z3f (b1 : List (ByteArray × Int)) (b2 : List (ByteArray × XVn)) (b3 : List (ByteArray × XSn)) (b4 : List (XTgt × XDone)) : List XSnap :=
 Z32 b3 (sortB (b3.map Prod.fst)) []
def dD_SnapsR (b1 : List (ByteArray × Int)) (b2 : List (ByteArray × XVn)) (b3 : List (ByteArray × XSn)) (b4 : List (XTgt × XDone)) : RT :=
 (.ask false
   .fail
   (.leaf .ret ⟨slots 25 [(2, .vec 5)], (.cells 102 [.map 1, .map 2, .map 3, .map 4] :: oM b1 b2 b3 b4 [.vec false ⟨.snap, Z32 b3 (sortB (b3.map Prod.fst)) []⟩])⟩ [0, 1, 2, 3, 4, 8]))
theorem dD_SnapsF_tr (b1 : List (ByteArray × Int)) (b2 : List (ByteArray × XVn)) (b3 : List (ByteArray × XSn)) (b4 : List (XTgt × XDone)) (hp0 : NK b3) : Tr Try.prog 5 (bodyOf Try.f24) (fnBegins Try.f24 [.ptr 0 0] (.cells 102 [.map 1, .map 2, .map 3, .map 4] :: oM b1 b2 b3 b4 [])) (fnEnds Try.prog Try.f24 (.coll ⟨.snap, Z3f b1 b2 b3 b4⟩) (.cells 102 [.map 1, .map 2, .map 3, .map 4] :: oM b1 b2 b3 b4 [])) := by
 refine Tr.post ?_
 refine Tr_tree (kok _ _ _ _ _ _) (E := E_dD_Snaps) (L := (loopsOf [(0, dD_Snaps_itS b1 b2 b3 b4, [0, 1, 2, 3, 4, 6, 8, 7], dD_Snaps_itT b1 b2 b3 b4)])) 60 9999 (Z10.oneR (g := loopAt Try.f24 0) (b := 0) (by kernel_rfl) (by kernel_rfl) (by kernel_rfl) (by kernel_rfl) (fun Q h => dD_Snaps_it_rg b1 b2 b3 b4 hp0 Q h)) (dD_SnapsR b1 b2 b3 b4) (by kernel_rfl) (by kernel_rfl) (by kernel_rfl) ?_
 unfold dD_SnapsR
 refine ⟨fun h0 => ?_, fun h0 => ?_⟩
 · exact absurd h0 (by simp)
 · have hF : Z3f b1 b2 b3 b4 = (Z32 b3 (sortB (b3.map Prod.fst)) []) := by first | exact rfl | simp only [Z3f, h0, cond_true, cond_false]
   exact ⟨_, Turn.frz 5 rfl, trivial, .inr (by (try rw [hF]); kernel_rfl), by (try rw [hF]); kernel_rfl⟩
noncomputable def dD_Snaps_fact : Fact Try.prog := factOf 24 Try.f24 (by kernel_rfl) rfl (by kernel_rfl) [.c (.ptr 0 0)] [.cells 102 [.map 1, .map 2, .map 3, .map 4], .map .str (.int .i64), .vols, .map .str .sn, .map .tgt .done] true (fun t u => .coll ⟨.snap, Z3f u.2.1 u.2.2.1 u.2.2.2.1 u.2.2.2.2.1⟩) (fun t u => HPL.enc _ u) (fun t u => [NK u.2.2.2.1])
 (fun _ _ _ => rfl) (fun t u => by kernel_rfl) (fun t u => by kernel_rfl) (fun t u h => dD_SnapsF_tr u.2.1 u.2.2.1 u.2.2.2.1 u.2.2.2.2.1 (h _ List.mem_cons_self))
end Go.Proofs.Ytpffbkbadnhmmaa
