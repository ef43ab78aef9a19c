/- The document's driver: what it tells. -/
import Derived.Test.YtpffbkbadnhmmaaDRGets
set_option linter.unusedVariables false
set_option linter.unusedSimpArgs false
set_option maxRecDepth 100000
namespace Go.Proofs.Ytpffbkbadnhmmaa
open Go Go.Eng
noncomputable def Zc7 : Env := Z62 (P := Try.prog) [] [] [] ckf
def Z39 (a1 : LV) (i : Nat) : List BA → Nat → Bool
 | [], i1 => false
 | o1 :: r, i1 => cond (!(decide (o1 = (((a1.getD i default).nodes).getD i1 default))))
  true
  (Z39 a1 i r (i1 + 1))
def Z85 (a0 : LV) (a1 : LV) (i : Nat) (i1 : Nat) : St :=
 ⟨Z9 81 [(0, .coll ⟨.vol, a0⟩), (1, .coll ⟨.vol, a1⟩), (5, .int .i64 (i : Int)), (6, .ptr 0 0), (7, .ptr 1 0), (8, .int .i64 (i1 : Int))], [.cells 45 [.str ((a0.getD i default).name), .int .i64 ((a0.getD i default).size), .str ((a0.getD i default).zone), .int .u64 ((a0.getD i default).tag), .coll ⟨.str, (a0.getD i default).nodes⟩], .cells 45 [.str ((a1.getD i default).name), .int .i64 ((a1.getD i default).size), .str ((a1.getD i default).zone), .int .u64 ((a1.getD i default).tag), .coll ⟨.str, (a1.getD i default).nodes⟩]]⟩
def Zb9 (a0 : LV) (a1 : LV) (i : Nat) (i1 : Nat) : RT :=
 (.ask (decide ((i1 : Int) < (((a0.getD i default).nodes).length : Int)))
   (.need [0 ≤ (i1 : Int) ∧ (i1 : Int) < (((a0.getD i default).nodes).length : Int), 0 ≤ (i1 : Int) ∧ (i1 : Int) < (((a1.getD i default).nodes).length : Int)]
     (.ask (!(decide ((((a0.getD i default).nodes).getD i1 default) = (((a1.getD i default).nodes).getD i1 default))))
       (.leaf .ret ⟨Z9 81 [(4, .bool false)], []⟩ [])
       (.leaf .normal ⟨Z9 81 [(0, .coll ⟨.vol, a0⟩), (1, .coll ⟨.vol, a1⟩), (5, .int .i64 (i : Int)), (6, .ptr 0 0), (7, .ptr 1 0), (8, .int .i64 (IntKind.i64.wrap ((i1 : Int) + (1 : Int))))], [.cells 45 [.str ((a0.getD i default).name), .int .i64 ((a0.getD i default).size), .str ((a0.getD i default).zone), .int .u64 ((a0.getD i default).tag), .coll ⟨.str, (a0.getD i default).nodes⟩], .cells 45 [.str ((a1.getD i default).name), .int .i64 ((a1.getD i default).size), .str ((a1.getD i default).zone), .int .u64 ((a1.getD i default).tag), .coll ⟨.str, (a1.getD i default).nodes⟩]]⟩ [])))
   (.leaf (.exit 2) ⟨Z9 81 [(0, .coll ⟨.vol, a0⟩), (1, .coll ⟨.vol, a1⟩), (5, .int .i64 (i : Int))], []⟩ []))
def Z5d (a0 : LV) (a1 : LV) (i : Nat) (i1 : Nat) : Tree :=
 .ask (Z39 a1 i (((a0.getD i default).nodes).drop i1) i1) (.leaf .ret ⟨Z9 81 [(4, .bool false)], []⟩) (.leaf (.exit 2) ⟨Z9 81 [(0, .coll ⟨.vol, a0⟩), (1, .coll ⟨.vol, a1⟩), (5, .int .i64 (i : Int))], []⟩)
theorem Z148 (a0 : LV) (a1 : LV) (i : Nat) (hp0 : a0.length ≤ 1000) (hp1 : ∀ v ∈ a0, v.nodes.length ≤ 1000) (hlen : ((a0.getD i default).nodes).length < 4611686018427387904) (hn0 : ((a0.getD i default).nodes).length = ((a1.getD i default).nodes).length) (hn1 : 0 ≤ (i : Int) ∧ (i : Int) < (a0.length : Int)) (z : { z : Nat // z ≤ ((a0.getD i default).nodes).length }) (Q : Exit → St → Prop) (h : (Z5d a0 a1 i z.1).All Q) : Tr Try.prog 0 (.loop (loopSub (Z47 Try.f61 0) 0 0)) (Z85 a0 a1 i z.1) Q := by
 refine Z61 (kok _ _ _ _ _ _) (E := Zc7) (ι := { z : Nat // z ≤ ((a0.getD i default).nodes).length }) 60 2 (fun _ => Z30) (fun z => Z85 a0 a1 i z.1) (fun z => Z5d a0 a1 i z.1) (fun z => Zb9 a0 a1 i z.1) (fun z => ((a0.getD i default).nodes).length - z.1) (fun _ => Z13.none) (fun z => by obtain ⟨i1, hi⟩ := z; kernel_rfl) (fun z => by obtain ⟨i1, hi⟩ := z; kernel_rfl) (fun z => by obtain ⟨i1, hi⟩ := z; kernel_rfl) ?_ z Q h
 rintro ⟨i1, hi⟩ Q hT
 replace hT : (Z5d a0 a1 i i1).All Q := hT
 replace hi : i1 ≤ ((a0.getD i default).nodes).length := hi
 show (Zb9 a0 a1 i i1).All _
 unfold Zb9
 refine ⟨fun h0 => ?_, fun h0 => ?_⟩
 · have hlt : i1 < ((a0.getD i default).nodes).length := by simpa using h0
   have hd := Z64 hlt
   have hw := Z50 (i := i1) (by omega)
   refine ⟨(by (iterate 2 refine Z2 (by first | assumption | omega | ((try intro _); (try simp only [decide_eq_true_eq, decide_eq_false_iff_not, Bool.cond_false_right, Bool.cond_true_right, Bool.cond_true_left, Bool.cond_false_left, Bool.and_eq_true, Bool.or_eq_true, Bool.not_eq_true', Z16, maxLen, List.length_cons, List.length_nil, List.length_append, Z48] at *); omega)) ?_); exact Z7), ?_⟩
   refine ⟨fun h1 => ?_, fun h1 => ?_⟩
   · have hF : Z39 a1 i (((a0.getD i default).nodes).drop i1) i1 = true := by rw [hd]; first | exact (Z11 h1 rfl) | simp only [Z39, h0, h1, cond_true, cond_false]
     unfold Z5d at hT
     rw [hF] at hT
     exact hT.1 rfl
   · have hF : Z39 a1 i (((a0.getD i default).nodes).drop i1) i1 = Z39 a1 i (((a0.getD i default).nodes).drop (i1 + 1)) (i1 + 1) := by rw [hd]; first | exact (Z3 h1 rfl) | simp only [Z39, h0, h1, cond_true, cond_false]
     refine ⟨⟨(i1 + 1), by show (i1 + 1) ≤ ((a0.getD i default).nodes).length; omega⟩, by show ((a0.getD i default).nodes).length - (i1 + 1) < ((a0.getD i default).nodes).length - i1; omega, ?_, ?_⟩
     · show _ = Z85 a0 a1 i (i1 + 1)
       unfold Z85
       simp only [hw]
     · show (Z5d a0 a1 i (i1 + 1)).All Q
       unfold Z5d at hT ⊢
       rw [hF] at hT
       exact hT
 · have hge : ¬ i1 < ((a0.getD i default).nodes).length := by simpa using h0
   have hd : ((a0.getD i default).nodes).drop i1 = [] := List.drop_eq_nil_of_le (by omega)
   have hF : Z39 a1 i (((a0.getD i default).nodes).drop i1) i1 = false := by rw [hd]; first | exact rfl | simp only [Z39, h0, cond_true, cond_false]
   unfold Z5d at hT
   rw [hF] at hT
   exact hT.2 rfl
def Z34 (a1 : LV) : LV → Nat → Bool
 | [], i => false
 | o :: r, i => cond (cond (cond (cond (cond (!(decide ((o.name) = ((a1.getD i default).name)))) true (!((o.size) == ((a1.getD i default).size)))) true (!(decide ((o.zone) = ((a1.getD i default).zone))))) true (!((o.tag) == ((a1.getD i default).tag)))) true (!(((o.nodes).length : Int) == (((a1.getD i default).nodes).length : Int))))
  true
  (cond (Z39 a1 i (o.nodes) 0)
    true
    (Z34 a1 r (i + 1)))
def Z95 (a0 : LV) (a1 : LV) (i : Nat) : St :=
 ⟨Z9 81 [(0, .coll ⟨.vol, a0⟩), (1, .coll ⟨.vol, a1⟩), (5, .int .i64 (i : Int))], []⟩
def Zc2 (a0 : LV) (a1 : LV) (i : Nat) : RT :=
 (.ask (decide ((i : Int) < (a0.length : Int)))
   (.need [0 ≤ (i : Int) ∧ (i : Int) < (a0.length : Int), 0 ≤ (i : Int) ∧ (i : Int) < (a1.length : Int)]
     (.ask (cond (cond (cond (cond (!(decide (((a0.getD i default).name) = ((a1.getD i default).name)))) true (!(((a0.getD i default).size) == ((a1.getD i default).size)))) true (!(decide (((a0.getD i default).zone) = ((a1.getD i default).zone))))) true (!(((a0.getD i default).tag) == ((a1.getD i default).tag)))) true (!((((a0.getD i default).nodes).length : Int) == (((a1.getD i default).nodes).length : Int))))
       (.leaf .ret ⟨Z9 81 [(4, .bool false)], []⟩ [])
       (.need [((a0.getD i default).nodes).length = ((a1.getD i default).nodes).length, 0 ≤ (i : Int) ∧ (i : Int) < (a0.length : Int), ((a0.getD i default).nodes).length < 4611686018427387904]
         (.ask (Z39 a1 i ((a0.getD i default).nodes) 0)
           (.leaf .ret ⟨Z9 81 [(4, .bool false)], []⟩ [])
           (.leaf .normal ⟨Z9 81 [(0, .coll ⟨.vol, a0⟩), (1, .coll ⟨.vol, a1⟩), (5, .int .i64 (IntKind.i64.wrap ((i : Int) + (1 : Int))))], []⟩ [])))))
   (.leaf (.exit 0) ⟨Z9 81 [], []⟩ []))
def Z5c (a0 : LV) (a1 : LV) (i : Nat) : Tree :=
 .ask (Z34 a1 (a0.drop i) i) (.leaf .ret ⟨Z9 81 [(4, .bool false)], []⟩) (.leaf (.exit 0) ⟨Z9 81 [], []⟩)
theorem Z163 (a0 : LV) (a1 : LV) (hp0 : a0.length ≤ 1000) (hp1 : ∀ v ∈ a0, v.nodes.length ≤ 1000) (hlen : a0.length < 4611686018427387904) (hn0 : a0.length = a1.length) (z : { z : Nat // z ≤ a0.length }) (Q : Exit → St → Prop) (h : (Z5c a0 a1 z.1).All Q) : Tr Try.prog 0 (.loop (Z47 Try.f61 0)) (Z95 a0 a1 z.1) Q := by
 refine Z61 (kok _ _ _ _ _ _) (E := Zc7) (ι := { z : Nat // z ≤ a0.length }) 60 0 (fun z => Z5f [(2, Z85 a0 a1 z.1 0, [], .need [((a0.getD z.1 default).nodes).length = ((a1.getD z.1 default).nodes).length, 0 ≤ (z.1 : Int) ∧ (z.1 : Int) < (a0.length : Int), ((a0.getD z.1 default).nodes).length < 4611686018427387904] (Z5d a0 a1 z.1 0))]) (fun z => Z95 a0 a1 z.1) (fun z => Z5c a0 a1 z.1) (fun z => Zc2 a0 a1 z.1) (fun z => a0.length - z.1) (fun z => by obtain ⟨i, hi⟩ := z; exact Z13.one (g := loopSub (Z47 Try.f61 0) 0 0) (b := 2) (by kernel_rfl) (by kernel_rfl) (by kernel_rfl) (by kernel_rfl) (fun Q h => Z148 a0 a1 i hp0 hp1 (h.1 _ (mN (mN mS))) (h.1 _ mS) (h.1 _ (mN mS)) ⟨0, by first | exact Nat.zero_le _ | (show 0 ≤ ((a0.getD i default).nodes).length; omega) | (show 0 ≤ ((a0.getD i default).nodes).length; exact ⟨Nat.zero_le _, by assumption⟩) | (show 0 ≤ ((a0.getD i default).nodes).length; simp)⟩ Q h.2)) (fun z => by obtain ⟨i, hi⟩ := z; kernel_rfl) (fun z => by obtain ⟨i, hi⟩ := z; kernel_rfl) (fun z => by obtain ⟨i, hi⟩ := z; kernel_rfl) ?_ z Q h
 rintro ⟨i, hi⟩ Q hT
 replace hT : (Z5c a0 a1 i).All Q := hT
 replace hi : i ≤ a0.length := hi
 show (Zc2 a0 a1 i).All _
 unfold Zc2
 refine ⟨fun h0 => ?_, fun h0 => ?_⟩
 · have hlt : i < a0.length := by simpa using h0
   have hd := Z64 hlt
   have hw := Z50 (i := i) (by omega)
   refine ⟨(by (iterate 2 refine Z2 (by first | assumption | omega | ((try intro _); (try simp only [decide_eq_true_eq, decide_eq_false_iff_not, Bool.cond_false_right, Bool.cond_true_right, Bool.cond_true_left, Bool.cond_false_left, Bool.and_eq_true, Bool.or_eq_true, Bool.not_eq_true', Z16, maxLen, List.length_cons, List.length_nil, List.length_append, Z48] at *); omega)) ?_); exact Z7), ?_⟩
   refine ⟨fun h1 => ?_, fun h1 => ?_⟩
   · have hF : Z34 a1 (a0.drop i) i = true := by rw [hd]; first | exact (Z11 h1 rfl) | simp only [Z34, h0, h1, cond_true, cond_false]
     unfold Z5c at hT
     rw [hF] at hT
     exact hT.1 rfl
   · refine ⟨Z2 (by have h9 := h1; simp only [cond_true, cond_false, Bool.cond_true_left, Bool.or_eq_false_iff, Bool.not_eq_false', decide_eq_true_eq, beq_iff_eq] at h9; omega) (Z2 (by first | assumption | omega | ((try intro _); (try simp only [decide_eq_true_eq, decide_eq_false_iff_not, Bool.cond_false_right, Bool.cond_true_right, Bool.cond_true_left, Bool.cond_false_left, Bool.and_eq_true, Bool.or_eq_true, Bool.not_eq_true', Z16, maxLen, List.length_cons, List.length_nil, List.length_append, Z48] at *); omega)) (Z2 (by have h8 := hp1 _ (Z235 (l := a0) (i := i) (by omega)); omega) (Z7))), ?_⟩
     refine ⟨fun h2 => ?_, fun h2 => ?_⟩
     · have hF : Z34 a1 (a0.drop i) i = true := by rw [hd]; first | exact (Z3 h1 (Z11 h2 rfl)) | simp only [Z34, h0, h1, h2, cond_true, cond_false]
       unfold Z5c at hT
       rw [hF] at hT
       exact hT.1 rfl
     · have hF : Z34 a1 (a0.drop i) i = Z34 a1 (a0.drop (i + 1)) (i + 1) := by rw [hd]; first | exact (Z3 h1 (Z3 h2 rfl)) | simp only [Z34, h0, h1, h2, cond_true, cond_false]
       refine ⟨⟨(i + 1), by show (i + 1) ≤ a0.length; omega⟩, by show a0.length - (i + 1) < a0.length - i; omega, ?_, ?_⟩
       · show _ = Z95 a0 a1 (i + 1)
         unfold Z95
         simp only [hw]
       · show (Z5c a0 a1 (i + 1)).All Q
         unfold Z5c at hT ⊢
         rw [hF] at hT
         exact hT
 · have hge : ¬ i < a0.length := by simpa using h0
   have hd : a0.drop i = [] := List.drop_eq_nil_of_le (by omega)
   have hF : Z34 a1 (a0.drop i) i = false := by rw [hd]; first | exact rfl | simp only [Z34, h0, cond_true, cond_false]
   unfold Z5c at hT
   rw [hF] at hT
   exact hT.2 rfl
def Z3c (a0 : LV) (a1 : LV) : Bool :=
 cond (!((a0.length : Int) == (a1.length : Int)))
  false
  (cond (Z34 a1 a0 0)
    false
    true)
def Z13f (a0 : LV) (a1 : LV) : RT :=
 (.ask (!((a0.length : Int) == (a1.length : Int)))
   (.leaf .ret ⟨Z9 81 [(4, .bool false)], []⟩ [])
   (.need [a0.length = a1.length]
     (.ask (Z34 a1 a0 0)
       (.leaf .ret ⟨Z9 81 [(4, .bool false)], []⟩ [])
       (.leaf .ret ⟨Z9 81 [(4, .bool true)], []⟩ []))))
theorem Z1b8 (a0 : LV) (a1 : LV) (hp0 : a0.length ≤ 1000) (hp1 : ∀ v ∈ a0, v.nodes.length ≤ 1000) : Tr Try.prog 0 (Z3b Try.f61) (Z25 Try.f61 [.coll ⟨.vol, a0⟩, .coll ⟨.vol, a1⟩] []) (Z46 Try.prog Try.f61 (.bool (Z3c a0 a1)) []) := by
 refine Z2f (kok _ _ _ _ _ _) (E := Zc7) (L := (Z5f [(0, Z95 a0 a1 0, [], .need [a0.length = a1.length] (Z5c a0 a1 0))])) 60 9999 (Z13.one (g := Z47 Try.f61 0) (b := 0) (by kernel_rfl) (by kernel_rfl) (by kernel_rfl) (by kernel_rfl) (fun Q h => Z163 a0 a1 hp0 hp1 (by omega) (h.1 _ mS) ⟨0, by first | exact Nat.zero_le _ | (show 0 ≤ a0.length; omega) | (show 0 ≤ a0.length; exact ⟨Nat.zero_le _, by assumption⟩) | (show 0 ≤ a0.length; simp)⟩ Q h.2)) (Z13f a0 a1) (by kernel_rfl) (by kernel_rfl) (by kernel_rfl) ?_
 unfold Z13f
 refine ⟨fun h0 => ?_, fun h0 => ?_⟩
 · have hF : Z3c a0 a1 = false := by first | exact (Z11 h0 rfl) | simp only [Z3c, h0, cond_true, cond_false]
   exact ⟨trivial, .inl (by (try rw [hF]); kernel_rfl), by (try rw [hF]); kernel_rfl⟩
 · refine ⟨Z2 (by have h9 := h0; simp only [Bool.not_eq_false', decide_eq_true_eq, beq_iff_eq] at h9; omega) (Z7), ?_⟩
   refine ⟨fun h1 => ?_, fun h1 => ?_⟩
   · have hF : Z3c a0 a1 = false := by first | exact (Z3 h0 (Z11 h1 rfl)) | simp only [Z3c, h0, h1, cond_true, cond_false]
     exact ⟨trivial, .inl (by (try rw [hF]); kernel_rfl), by (try rw [hF]); kernel_rfl⟩
   · have hF : Z3c a0 a1 = true := by first | exact (Z3 h0 (Z3 h1 rfl)) | simp only [Z3c, h0, h1, cond_true, cond_false]
     exact ⟨trivial, .inl (by (try rw [hF]); kernel_rfl), by (try rw [hF]); kernel_rfl⟩
noncomputable def Z192 : Fact Try.prog := Z4f 61 Try.f61 (by kernel_rfl) rfl (by kernel_rfl) [.c (.coll .vol), .c (.coll .vol)] [] true (fun t u => .bool (Z3c t.1 t.2.1)) (fun t u => []) (fun t u => [t.1.length ≤ 1000, ∀ v ∈ t.1, v.nodes.length ≤ 1000])
 (fun _ _ _ => rfl) (fun t u => by kernel_rfl) (fun t u => by kernel_rfl) (fun t u h => Z1b8 t.1 t.2.1 (h _ mS) (h _ (mN mS)))
noncomputable def Z17c : Env := Z62 (P := Try.prog) [] [] [] ckf
def Z4c (a1 : LS) : LS → Nat → Bool
 | [], i => false
 | o :: r, i => cond (!((decide ((o.name) = ((a1.getD i default).name))) && (((o.size) == ((a1.getD i default).size)) && ((o.tag) == ((a1.getD i default).tag)))))
  true
  (Z4c a1 r (i + 1))
def Za1 (a0 : LS) (a1 : LS) (i : Nat) : St :=
 ⟨Z9 26 [(0, .coll ⟨.snap, a0⟩), (1, .coll ⟨.snap, a1⟩), (5, .int .i64 (i : Int))], []⟩
def Zec (a0 : LS) (a1 : LS) (i : Nat) : RT :=
 (.ask (decide ((i : Int) < (a0.length : Int)))
   (.need [0 ≤ (i : Int) ∧ (i : Int) < (a0.length : Int), 0 ≤ (i : Int) ∧ (i : Int) < (a1.length : Int)]
     (.ask (!((decide (((a0.getD i default).name) = ((a1.getD i default).name))) && ((((a0.getD i default).size) == ((a1.getD i default).size)) && (((a0.getD i default).tag) == ((a1.getD i default).tag)))))
       (.leaf .ret ⟨Z9 26 [(4, .bool false)], []⟩ [])
       (.leaf .normal ⟨Z9 26 [(0, .coll ⟨.snap, a0⟩), (1, .coll ⟨.snap, a1⟩), (5, .int .i64 (IntKind.i64.wrap ((i : Int) + (1 : Int))))], []⟩ [])))
   (.leaf (.exit 0) ⟨Z9 26 [], []⟩ []))
def Z73 (a0 : LS) (a1 : LS) (i : Nat) : Tree :=
 .ask (Z4c a1 (a0.drop i) i) (.leaf .ret ⟨Z9 26 [(4, .bool false)], []⟩) (.leaf (.exit 0) ⟨Z9 26 [], []⟩)
theorem Z1b9 (a0 : LS) (a1 : LS) (hp0 : a0.length ≤ 1000) (hlen : a0.length < 4611686018427387904) (hn0 : a0.length = a1.length) (z : { z : Nat // z ≤ a0.length }) (Q : Exit → St → Prop) (h : (Z73 a0 a1 z.1).All Q) : Tr Try.prog 0 (.loop (Z47 Try.f63 0)) (Za1 a0 a1 z.1) Q := by
 refine Z61 (kok _ _ _ _ _ _) (E := Z17c) (ι := { z : Nat // z ≤ a0.length }) 60 0 (fun _ => Z30) (fun z => Za1 a0 a1 z.1) (fun z => Z73 a0 a1 z.1) (fun z => Zec a0 a1 z.1) (fun z => a0.length - z.1) (fun _ => Z13.none) (fun z => by obtain ⟨i, hi⟩ := z; kernel_rfl) (fun z => by obtain ⟨i, hi⟩ := z; kernel_rfl) (fun z => by obtain ⟨i, hi⟩ := z; kernel_rfl) ?_ z Q h
 rintro ⟨i, hi⟩ Q hT
 replace hT : (Z73 a0 a1 i).All Q := hT
 replace hi : i ≤ a0.length := hi
 show (Zec a0 a1 i).All _
 unfold Zec
 refine ⟨fun h0 => ?_, fun h0 => ?_⟩
 · have hlt : i < a0.length := by simpa using h0
   have hd := Z64 hlt
   have hw := Z50 (i := i) (by omega)
   refine ⟨(by (iterate 2 refine Z2 (by first | assumption | omega | ((try intro _); (try simp only [decide_eq_true_eq, decide_eq_false_iff_not, Bool.cond_false_right, Bool.cond_true_right, Bool.cond_true_left, Bool.cond_false_left, Bool.and_eq_true, Bool.or_eq_true, Bool.not_eq_true', Z16, maxLen, List.length_cons, List.length_nil, List.length_append, Z48] at *); omega)) ?_); exact Z7), ?_⟩
   refine ⟨fun h1 => ?_, fun h1 => ?_⟩
   · have hF : Z4c a1 (a0.drop i) i = true := by rw [hd]; first | exact (Z11 h1 rfl) | simp only [Z4c, h0, h1, cond_true, cond_false]
     unfold Z73 at hT
     rw [hF] at hT
     exact hT.1 rfl
   · have hF : Z4c a1 (a0.drop i) i = Z4c a1 (a0.drop (i + 1)) (i + 1) := by rw [hd]; first | exact (Z3 h1 rfl) | simp only [Z4c, h0, h1, cond_true, cond_false]
     refine ⟨⟨(i + 1), by show (i + 1) ≤ a0.length; omega⟩, by show a0.length - (i + 1) < a0.length - i; omega, ?_, ?_⟩
     · show _ = Za1 a0 a1 (i + 1)
       unfold Za1
       simp only [hw]
     · show (Z73 a0 a1 (i + 1)).All Q
       unfold Z73 at hT ⊢
       rw [hF] at hT
       exact hT
 · have hge : ¬ i < a0.length := by simpa using h0
   have hd : a0.drop i = [] := List.drop_eq_nil_of_le (by omega)
   have hF : Z4c a1 (a0.drop i) i = false := by rw [hd]; first | exact rfl | simp only [Z4c, h0, cond_true, cond_false]
   unfold Z73 at hT
   rw [hF] at hT
   exact hT.2 rfl
def Z5b (a0 : LS) (a1 : LS) : Bool :=
 cond (!((a0.length : Int) == (a1.length : Int)))
  false
  (cond (Z4c a1 a0 0)
    false
    true)
def Z1a3 (a0 : LS) (a1 : LS) : RT :=
 (.ask (!((a0.length : Int) == (a1.length : Int)))
   (.leaf .ret ⟨Z9 26 [(4, .bool false)], []⟩ [])
   (.need [a0.length = a1.length]
     (.ask (Z4c a1 a0 0)
       (.leaf .ret ⟨Z9 26 [(4, .bool false)], []⟩ [])
       (.leaf .ret ⟨Z9 26 [(4, .bool true)], []⟩ []))))
theorem Z211 (a0 : LS) (a1 : LS) (hp0 : a0.length ≤ 1000) : Tr Try.prog 0 (Z3b Try.f63) (Z25 Try.f63 [.coll ⟨.snap, a0⟩, .coll ⟨.snap, a1⟩] []) (Z46 Try.prog Try.f63 (.bool (Z5b a0 a1)) []) := by
 refine Z2f (kok _ _ _ _ _ _) (E := Z17c) (L := (Z5f [(0, Za1 a0 a1 0, [], .need [a0.length = a1.length] (Z73 a0 a1 0))])) 60 9999 (Z13.one (g := Z47 Try.f63 0) (b := 0) (by kernel_rfl) (by kernel_rfl) (by kernel_rfl) (by kernel_rfl) (fun Q h => Z1b9 a0 a1 hp0 (by omega) (h.1 _ mS) ⟨0, by first | exact Nat.zero_le _ | (show 0 ≤ a0.length; omega) | (show 0 ≤ a0.length; exact ⟨Nat.zero_le _, by assumption⟩) | (show 0 ≤ a0.length; simp)⟩ Q h.2)) (Z1a3 a0 a1) (by kernel_rfl) (by kernel_rfl) (by kernel_rfl) ?_
 unfold Z1a3
 refine ⟨fun h0 => ?_, fun h0 => ?_⟩
 · have hF : Z5b a0 a1 = false := by first | exact (Z11 h0 rfl) | simp only [Z5b, h0, cond_true, cond_false]
   exact ⟨trivial, .inl (by (try rw [hF]); kernel_rfl), by (try rw [hF]); kernel_rfl⟩
 · refine ⟨Z2 (by have h9 := h0; simp only [Bool.not_eq_false', decide_eq_true_eq, beq_iff_eq] at h9; omega) (Z7), ?_⟩
   refine ⟨fun h1 => ?_, fun h1 => ?_⟩
   · have hF : Z5b a0 a1 = false := by first | exact (Z3 h0 (Z11 h1 rfl)) | simp only [Z5b, h0, h1, cond_true, cond_false]
     exact ⟨trivial, .inl (by (try rw [hF]); kernel_rfl), by (try rw [hF]); kernel_rfl⟩
   · have hF : Z5b a0 a1 = true := by first | exact (Z3 h0 (Z3 h1 rfl)) | simp only [Z5b, h0, h1, cond_true, cond_false]
     exact ⟨trivial, .inl (by (try rw [hF]); kernel_rfl), by (try rw [hF]); kernel_rfl⟩
noncomputable def Z1dc : Fact Try.prog := Z4f 63 Try.f63 (by kernel_rfl) rfl (by kernel_rfl) [.c (.coll .snap), .c (.coll .snap)] [] true (fun t u => .bool (Z5b t.1 t.2.1)) (fun t u => []) (fun t u => [t.1.length ≤ 1000])
 (fun _ _ _ => rfl) (fun t u => by kernel_rfl) (fun t u => by kernel_rfl) (fun t u h => Z211 t.1 t.2.1 (h _ mS))
end Go.Proofs.Ytpffbkbadnhmmaa
