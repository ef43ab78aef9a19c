/- The document's driver: making. -/
import Derived.Test.YtkledlcmhbjadaaGreatDRExp
set_option linter.unusedVariables false
set_option linter.unusedSimpArgs false
set_option maxRecDepth 100000
namespace Go.Proofs.YtkledlcmhbjadaaGreat
open Go Go.Eng
noncomputable def Z144 : Env := Z65 (P := Tryz.prog) [Z135, Zba, Z161, Z163] [] [] ckf true
def Z36 (a1 : XCall) (b1 : LZ) (b2 : LV) (b3 : LS) (b4 : LQ) : LV → Bool → LV → Bool × LV
 | [], v1, v13 => (v1, v13)
 | o :: r, v1, v13 => cond (cond (!v1) (Z46 a1.target (o.name)) false)
  (Z36 a1 b1 b2 b3 b4 r true ((v13 ++ [(⟨a1.target, a1.size, a1.zone, ((b3.getD ((Z24 a1.source b1 b2 b3 b4).toNat) default).tag), []⟩ : XVol)]) ++ [o]))
  (Z36 a1 b1 b2 b3 b4 r v1 (v13 ++ [o]))
abbrev kRC0 (b1 : LZ) (a1 : XCall) (b2 : LV) (b3 : LS) (b4 : LQ) := (b1.set ((Z16 a1.zone b1 b2 b3 b4).toNat) (⟨(b1.getD ((Z16 a1.zone b1 b2 b3 b4).toNat) default).name, (IntKind.i64.wrap (((b1.getD ((Z16 a1.zone b1 b2 b3 b4).toNat) default).room) - a1.size))⟩ : XZone))
abbrev kRC1 (b3 : LS) (a1 : XCall) (b1 : LZ) (b2 : LV) (b4 : LQ) := ((b3.getD ((Z24 a1.source b1 b2 b3 b4).toNat) default).tag)
def Zac (a1 : XCall) (b1 : LZ) (b2 : LV) (b3 : LS) (b4 : LQ) (v1 : Bool) (i : Nat) (v13 : LV) : St :=
 ⟨Za 201 [(0, .ptr 0 0), (3, .ptr 5 0), (4, .ptr 6 0), (8, .int .u64 (kRC1 b3 a1 b1 b2 b4)), (12, .ptr 7 0), (13, .vec 8), (14, .bool v1), (15, .int .i64 (i : Int))], (.cells 111 [.vec 1, .vec 2, .vec 3, .vec 4] :: oV (kRC0 b1 a1 b2 b3 b4) b2 b3 b4 [.cells 34 (cc a1), .cells 52 [.int .i64 0, .int .i64 0, .str (⟨#[]⟩ : BA), .int .u64 0], .cells 106 [.str a1.target, .int .i64 a1.size, .str a1.zone, .int .u64 (kRC1 b3 a1 b1 b2 b4), .nils], .vec false ⟨.vol, v13⟩])⟩
abbrev kRC5 (a1 : XCall) (b3 : LS) (b1 : LZ) (b2 : LV) (b4 : LQ) := (⟨a1.target, a1.size, a1.zone, (kRC1 b3 a1 b1 b2 b4), []⟩ : XVol)
def Z1bc (a1 : XCall) (b1 : LZ) (b2 : LV) (b3 : LS) (b4 : LQ) (v1 : Bool) (i : Nat) (v13 : LV) : RT :=
 (.ask (decide ((i : Int) < (b2.length : Int)))
   (.need [((!v1) = true) → (0 ≤ (i : Int) ∧ (i : Int) < (b2.length : Int))]
     (.ask (cond (!v1) (Z46 a1.target ((b2.getD i default).name)) false)
       (.need [(v13.length + [(kRC5 a1 b3 b1 b2 b4)].length) * 72 ≤ Z18 ∧ v13.length + [(kRC5 a1 b3 b1 b2 b4)].length ≤ maxLen]
         (.need [0 ≤ (i : Int) ∧ (i : Int) < (b2.length : Int)]
           (.need [((v13 ++ [(kRC5 a1 b3 b1 b2 b4)]).length + [(b2.getD i default)].length) * 72 ≤ Z18 ∧ (v13 ++ [(kRC5 a1 b3 b1 b2 b4)]).length + [(b2.getD i default)].length ≤ maxLen]
             (.leaf .normal ⟨Za 201 [(0, .ptr 0 0), (3, .ptr 5 0), (4, .ptr 6 0), (8, .int .u64 (kRC1 b3 a1 b1 b2 b4)), (12, .ptr 7 0), (13, .vec 8), (14, .bool true), (15, .int .i64 (IntKind.i64.wrap ((i : Int) + (1 : Int))))], (.cells 111 [.vec 1, .vec 2, .vec 3, .vec 4] :: oV (kRC0 b1 a1 b2 b3 b4) b2 b3 b4 [.cells 34 (cc a1), .cells 52 [.int .i64 0, .int .i64 0, .str (⟨#[]⟩ : BA), .int .u64 0], .cells 106 [.str a1.target, .int .i64 a1.size, .str a1.zone, .int .u64 (kRC1 b3 a1 b1 b2 b4), .nils], .vec false ⟨.vol, ((v13 ++ [(kRC5 a1 b3 b1 b2 b4)]) ++ [(b2.getD i default)])⟩])⟩ [0, 1, 2, 3, 4, 5, 6, 7, 12]))))
       (.need [0 ≤ (i : Int) ∧ (i : Int) < (b2.length : Int)]
         (.need [(v13.length + [(b2.getD i default)].length) * 72 ≤ Z18 ∧ v13.length + [(b2.getD i default)].length ≤ maxLen]
           (.leaf .normal ⟨Za 201 [(0, .ptr 0 0), (3, .ptr 5 0), (4, .ptr 6 0), (8, .int .u64 (kRC1 b3 a1 b1 b2 b4)), (12, .ptr 7 0), (13, .vec 8), (14, .bool v1), (15, .int .i64 (IntKind.i64.wrap ((i : Int) + (1 : Int))))], (.cells 111 [.vec 1, .vec 2, .vec 3, .vec 4] :: oV (kRC0 b1 a1 b2 b3 b4) b2 b3 b4 [.cells 34 (cc a1), .cells 52 [.int .i64 0, .int .i64 0, .str (⟨#[]⟩ : BA), .int .u64 0], .cells 106 [.str a1.target, .int .i64 a1.size, .str a1.zone, .int .u64 (kRC1 b3 a1 b1 b2 b4), .nils], .vec false ⟨.vol, (v13 ++ [(b2.getD i default)])⟩])⟩ [0, 1, 2, 3, 4, 5, 6, 7, 10])))))
   (.leaf (.exit 2) ⟨Za 201 [(0, .ptr 0 0), (3, .ptr 5 0), (4, .ptr 6 0), (8, .int .u64 (kRC1 b3 a1 b1 b2 b4)), (12, .ptr 7 0), (13, .vec 8), (14, .bool v1)], (.cells 111 [.vec 1, .vec 2, .vec 3, .vec 4] :: oV (kRC0 b1 a1 b2 b3 b4) b2 b3 b4 [.cells 34 (cc a1), .cells 52 [.int .i64 0, .int .i64 0, .str (⟨#[]⟩ : BA), .int .u64 0], .cells 106 [.str a1.target, .int .i64 a1.size, .str a1.zone, .int .u64 (kRC1 b3 a1 b1 b2 b4), .nils], .vec false ⟨.vol, v13⟩])⟩ []))
def Z97 (a1 : XCall) (b1 : LZ) (b2 : LV) (b3 : LS) (b4 : LQ) (v1 : Bool) (i : Nat) (v13 : LV) : Tree :=
 .leaf (.exit 2) ⟨Za 201 [(0, .ptr 0 0), (3, .ptr 5 0), (4, .ptr 6 0), (8, .int .u64 (kRC1 b3 a1 b1 b2 b4)), (12, .ptr 7 0), (13, .vec 8), (14, .bool ((Z36 a1 b1 b2 b3 b4 (b2.drop i) v1 v13).1))], (.cells 111 [.vec 1, .vec 2, .vec 3, .vec 4] :: oV (kRC0 b1 a1 b2 b3 b4) b2 b3 b4 [.cells 34 (cc a1), .cells 52 [.int .i64 0, .int .i64 0, .str (⟨#[]⟩ : BA), .int .u64 0], .cells 106 [.str a1.target, .int .i64 a1.size, .str a1.zone, .int .u64 (kRC1 b3 a1 b1 b2 b4), .nils], .vec false ⟨.vol, (Z36 a1 b1 b2 b3 b4 (b2.drop i) v1 v13).2⟩])⟩
theorem rD_createL_loop (a1 : XCall) (b1 : LZ) (b2 : LV) (b3 : LS) (b4 : LQ) (hp0 : b1.length ≤ 1000) (hp1 : b2.length ≤ 1000) (hp2 : b3.length ≤ 1000) (hp3 : b4.length ≤ 1000) (hp4 : ∀ v ∈ b2, v.nodes.length ≤ 1000) (hp5 : ∀ v ∈ b2, ZHas b1 v.zone) (hlen : b2.length < 4611686018427387904) (z : { z : Bool × Nat × LV // z.2.1 ≤ b2.length ∧ z.2.2.length ≤ 2 * z.2.1 }) (Q : Exit → St → Prop) (h : (Z97 a1 b1 b2 b3 b4 z.1.1 z.1.2.1 z.1.2.2).All Q) : Tr Tryz.prog 5 (.loop (Z47 Tryz.f83 0)) (Zac a1 b1 b2 b3 b4 z.1.1 z.1.2.1 z.1.2.2) Q := by
 refine Z60 (kok _ _ _ _ _ _) (E := Z144) (ι := { z : Bool × Nat × LV // z.2.1 ≤ b2.length ∧ z.2.2.length ≤ 2 * z.2.1 }) 60 2 (fun _ => Z32) (fun z => Zac a1 b1 b2 b3 b4 z.1.1 z.1.2.1 z.1.2.2) (fun z => Z97 a1 b1 b2 b3 b4 z.1.1 z.1.2.1 z.1.2.2) (fun z => Z1bc a1 b1 b2 b3 b4 z.1.1 z.1.2.1 z.1.2.2) (fun z => b2.length - z.1.2.1) (fun _ => Z14.none) (fun z => by obtain ⟨⟨v1, i, v13⟩, hi⟩ := z; kernel_rfl) (fun z => by obtain ⟨⟨v1, i, v13⟩, hi⟩ := z; kernel_rfl) (fun z => by obtain ⟨⟨v1, i, v13⟩, hi⟩ := z; kernel_rfl) ?_ z Q h
 rintro ⟨⟨v1, i, v13⟩, hi⟩ Q hT
 replace hT : (Z97 a1 b1 b2 b3 b4 v1 i v13).All Q := hT
 replace hi : i ≤ b2.length ∧ v13.length ≤ 2 * i := hi
 show (Z1bc a1 b1 b2 b3 b4 v1 i v13).All _
 unfold Z1bc
 refine ⟨fun h0 => ?_, fun h0 => ?_⟩
 · have hlt : i < b2.length := by simpa using h0
   have hd := Z64 hlt
   have hw := Z4e (i := i) (by omega)
   refine ⟨Z2 (by (try refine fun (_ : _ = _) => ?_); first | omega | (constructor <;> omega)) (Z9), ?_⟩
   refine ⟨fun h1 => ?_, fun h1 => ?_⟩
   · refine ⟨Z2 (by (try refine fun (_ : _ = _) => ?_); unfold Z18 maxLen; (try simp only [List.length_append, List.length_cons, List.length_nil, List.length_drop, List.length_take]); omega) (Z9), ?_⟩
     refine ⟨Z2 (by (try refine fun (_ : _ = _) => ?_); first | omega | (constructor <;> omega)) (Z9), ?_⟩
     refine ⟨Z2 (by (try refine fun (_ : _ = _) => ?_); unfold Z18 maxLen; (try simp only [List.length_append, List.length_cons, List.length_nil, List.length_drop, List.length_take]); omega) (Z9), ?_⟩
     have hF : Z36 a1 b1 b2 b3 b4 (b2.drop i) v1 v13 = Z36 a1 b1 b2 b3 b4 (b2.drop (i + 1)) true ((v13 ++ [(kRC5 a1 b3 b1 b2 b4)]) ++ [(b2.getD i default)]) := by rw [hd]; first | exact (Z12 h1 rfl) | simp only [Z36, h0, h1, cond_true, cond_false]
     refine ⟨⟨(true, (i + 1), ((v13 ++ [(kRC5 a1 b3 b1 b2 b4)]) ++ [(b2.getD i default)])), by (first | dsimp only | skip); constructor <;> (try simp only [List.length_append, List.length_cons, List.length_nil]) <;> omega⟩, by show b2.length - (i + 1) < b2.length - i; omega, ?_, ?_⟩
     · show _ = Zac a1 b1 b2 b3 b4 true (i + 1) ((v13 ++ [(kRC5 a1 b3 b1 b2 b4)]) ++ [(b2.getD i default)])
       unfold Zac
       simp only [hw]
     · show (Z97 a1 b1 b2 b3 b4 true (i + 1) ((v13 ++ [(kRC5 a1 b3 b1 b2 b4)]) ++ [(b2.getD i default)])).All Q
       unfold Z97 at hT ⊢
       rw [hF] at hT
       exact hT
   · refine ⟨Z2 (by (try refine fun (_ : _ = _) => ?_); first | omega | (constructor <;> omega)) (Z9), ?_⟩
     refine ⟨Z2 (by (try refine fun (_ : _ = _) => ?_); unfold Z18 maxLen; (try simp only [List.length_append, List.length_cons, List.length_nil, List.length_drop, List.length_take]); omega) (Z9), ?_⟩
     have hF : Z36 a1 b1 b2 b3 b4 (b2.drop i) v1 v13 = Z36 a1 b1 b2 b3 b4 (b2.drop (i + 1)) v1 (v13 ++ [(b2.getD i default)]) := by rw [hd]; first | exact (Z3 h1 rfl) | simp only [Z36, h0, h1, cond_true, cond_false]
     refine ⟨⟨(v1, (i + 1), (v13 ++ [(b2.getD i default)])), by (first | dsimp only | skip); constructor <;> (try simp only [List.length_append, List.length_cons, List.length_nil]) <;> omega⟩, by show b2.length - (i + 1) < b2.length - i; omega, ?_, ?_⟩
     · show _ = Zac a1 b1 b2 b3 b4 v1 (i + 1) (v13 ++ [(b2.getD i default)])
       unfold Zac
       simp only [hw]
     · show (Z97 a1 b1 b2 b3 b4 v1 (i + 1) (v13 ++ [(b2.getD i default)])).All Q
       unfold Z97 at hT ⊢
       rw [hF] at hT
       exact hT
 · have hge : ¬ i < b2.length := by simpa using h0
   have hd : b2.drop i = [] := List.drop_eq_nil_of_le (by omega)
   have hF : Z36 a1 b1 b2 b3 b4 (b2.drop i) v1 v13 = (v1, v13) := by rw [hd]; first | exact rfl | simp only [Z36, h0, cond_true, cond_false]
   unfold Z97 at hT
   rw [hF] at hT
   exact hT
def Z31 (a1 : XCall) (b1 : LZ) (b2 : LV) (b3 : LS) (b4 : LQ) : LV → Bool → LV → Bool × LV
 | [], v1_1, v1_13 => (v1_1, v1_13)
 | o1 :: r, v1_1, v1_13 => cond (cond (!v1_1) (Z46 a1.target (o1.name)) false)
  (Z31 a1 b1 b2 b3 b4 r true ((v1_13 ++ [(⟨a1.target, a1.size, a1.zone, ((b2.getD ((Z5 a1.source b1 b2 b3 b4).toNat) default).tag), []⟩ : XVol)]) ++ [o1]))
  (Z31 a1 b1 b2 b3 b4 r v1_1 (v1_13 ++ [o1]))
abbrev kRC2 (b2 : LV) (a1 : XCall) (b1 : LZ) (b3 : LS) (b4 : LQ) := ((b2.getD ((Z5 a1.source b1 b2 b3 b4).toNat) default).tag)
def Z9f (a1 : XCall) (b1 : LZ) (b2 : LV) (b3 : LS) (b4 : LQ) (v1_1 : Bool) (i1 : Nat) (v1_13 : LV) : St :=
 ⟨Za 201 [(0, .ptr 0 0), (3, .ptr 5 0), (4, .ptr 6 0), (8, .int .u64 (kRC2 b2 a1 b1 b3 b4)), (12, .ptr 7 0), (13, .vec 8), (14, .bool v1_1), (15, .int .i64 (i1 : Int))], (.cells 111 [.vec 1, .vec 2, .vec 3, .vec 4] :: oV (kRC0 b1 a1 b2 b3 b4) b2 b3 b4 [.cells 34 (cc a1), .cells 52 [.int .i64 0, .int .i64 0, .str (⟨#[]⟩ : BA), .int .u64 0], .cells 106 [.str a1.target, .int .i64 a1.size, .str a1.zone, .int .u64 (kRC2 b2 a1 b1 b3 b4), .nils], .vec false ⟨.vol, v1_13⟩])⟩
abbrev kRC6 (a1 : XCall) (b2 : LV) (b1 : LZ) (b3 : LS) (b4 : LQ) := (⟨a1.target, a1.size, a1.zone, (kRC2 b2 a1 b1 b3 b4), []⟩ : XVol)
def Z167 (a1 : XCall) (b1 : LZ) (b2 : LV) (b3 : LS) (b4 : LQ) (v1_1 : Bool) (i1 : Nat) (v1_13 : LV) : RT :=
 (.ask (decide ((i1 : Int) < (b2.length : Int)))
   (.need [((!v1_1) = true) → (0 ≤ (i1 : Int) ∧ (i1 : Int) < (b2.length : Int))]
     (.ask (cond (!v1_1) (Z46 a1.target ((b2.getD i1 default).name)) false)
       (.need [(v1_13.length + [(kRC6 a1 b2 b1 b3 b4)].length) * 72 ≤ Z18 ∧ v1_13.length + [(kRC6 a1 b2 b1 b3 b4)].length ≤ maxLen]
         (.need [0 ≤ (i1 : Int) ∧ (i1 : Int) < (b2.length : Int)]
           (.need [((v1_13 ++ [(kRC6 a1 b2 b1 b3 b4)]).length + [(b2.getD i1 default)].length) * 72 ≤ Z18 ∧ (v1_13 ++ [(kRC6 a1 b2 b1 b3 b4)]).length + [(b2.getD i1 default)].length ≤ maxLen]
             (.leaf .normal ⟨Za 201 [(0, .ptr 0 0), (3, .ptr 5 0), (4, .ptr 6 0), (8, .int .u64 (kRC2 b2 a1 b1 b3 b4)), (12, .ptr 7 0), (13, .vec 8), (14, .bool true), (15, .int .i64 (IntKind.i64.wrap ((i1 : Int) + (1 : Int))))], (.cells 111 [.vec 1, .vec 2, .vec 3, .vec 4] :: oV (kRC0 b1 a1 b2 b3 b4) b2 b3 b4 [.cells 34 (cc a1), .cells 52 [.int .i64 0, .int .i64 0, .str (⟨#[]⟩ : BA), .int .u64 0], .cells 106 [.str a1.target, .int .i64 a1.size, .str a1.zone, .int .u64 (kRC2 b2 a1 b1 b3 b4), .nils], .vec false ⟨.vol, ((v1_13 ++ [(kRC6 a1 b2 b1 b3 b4)]) ++ [(b2.getD i1 default)])⟩])⟩ [0, 1, 2, 3, 4, 5, 6, 7, 12]))))
       (.need [0 ≤ (i1 : Int) ∧ (i1 : Int) < (b2.length : Int)]
         (.need [(v1_13.length + [(b2.getD i1 default)].length) * 72 ≤ Z18 ∧ v1_13.length + [(b2.getD i1 default)].length ≤ maxLen]
           (.leaf .normal ⟨Za 201 [(0, .ptr 0 0), (3, .ptr 5 0), (4, .ptr 6 0), (8, .int .u64 (kRC2 b2 a1 b1 b3 b4)), (12, .ptr 7 0), (13, .vec 8), (14, .bool v1_1), (15, .int .i64 (IntKind.i64.wrap ((i1 : Int) + (1 : Int))))], (.cells 111 [.vec 1, .vec 2, .vec 3, .vec 4] :: oV (kRC0 b1 a1 b2 b3 b4) b2 b3 b4 [.cells 34 (cc a1), .cells 52 [.int .i64 0, .int .i64 0, .str (⟨#[]⟩ : BA), .int .u64 0], .cells 106 [.str a1.target, .int .i64 a1.size, .str a1.zone, .int .u64 (kRC2 b2 a1 b1 b3 b4), .nils], .vec false ⟨.vol, (v1_13 ++ [(b2.getD i1 default)])⟩])⟩ [0, 1, 2, 3, 4, 5, 6, 7, 10])))))
   (.leaf (.exit 2) ⟨Za 201 [(0, .ptr 0 0), (3, .ptr 5 0), (4, .ptr 6 0), (8, .int .u64 (kRC2 b2 a1 b1 b3 b4)), (12, .ptr 7 0), (13, .vec 8), (14, .bool v1_1)], (.cells 111 [.vec 1, .vec 2, .vec 3, .vec 4] :: oV (kRC0 b1 a1 b2 b3 b4) b2 b3 b4 [.cells 34 (cc a1), .cells 52 [.int .i64 0, .int .i64 0, .str (⟨#[]⟩ : BA), .int .u64 0], .cells 106 [.str a1.target, .int .i64 a1.size, .str a1.zone, .int .u64 (kRC2 b2 a1 b1 b3 b4), .nils], .vec false ⟨.vol, v1_13⟩])⟩ []))
def Z88 (a1 : XCall) (b1 : LZ) (b2 : LV) (b3 : LS) (b4 : LQ) (v1_1 : Bool) (i1 : Nat) (v1_13 : LV) : Tree :=
 .leaf (.exit 2) ⟨Za 201 [(0, .ptr 0 0), (3, .ptr 5 0), (4, .ptr 6 0), (8, .int .u64 (kRC2 b2 a1 b1 b3 b4)), (12, .ptr 7 0), (13, .vec 8), (14, .bool ((Z31 a1 b1 b2 b3 b4 (b2.drop i1) v1_1 v1_13).1))], (.cells 111 [.vec 1, .vec 2, .vec 3, .vec 4] :: oV (kRC0 b1 a1 b2 b3 b4) b2 b3 b4 [.cells 34 (cc a1), .cells 52 [.int .i64 0, .int .i64 0, .str (⟨#[]⟩ : BA), .int .u64 0], .cells 106 [.str a1.target, .int .i64 a1.size, .str a1.zone, .int .u64 (kRC2 b2 a1 b1 b3 b4), .nils], .vec false ⟨.vol, (Z31 a1 b1 b2 b3 b4 (b2.drop i1) v1_1 v1_13).2⟩])⟩
theorem Z24a (a1 : XCall) (b1 : LZ) (b2 : LV) (b3 : LS) (b4 : LQ) (hp0 : b1.length ≤ 1000) (hp1 : b2.length ≤ 1000) (hp2 : b3.length ≤ 1000) (hp3 : b4.length ≤ 1000) (hp4 : ∀ v ∈ b2, v.nodes.length ≤ 1000) (hp5 : ∀ v ∈ b2, ZHas b1 v.zone) (hlen : b2.length < 4611686018427387904) (z : { z : Bool × Nat × LV // z.2.1 ≤ b2.length ∧ z.2.2.length ≤ 2 * z.2.1 }) (Q : Exit → St → Prop) (h : (Z88 a1 b1 b2 b3 b4 z.1.1 z.1.2.1 z.1.2.2).All Q) : Tr Tryz.prog 5 (.loop (Z47 Tryz.f83 0)) (Z9f a1 b1 b2 b3 b4 z.1.1 z.1.2.1 z.1.2.2) Q := by
 refine Z60 (kok _ _ _ _ _ _) (E := Z144) (ι := { z : Bool × Nat × LV // z.2.1 ≤ b2.length ∧ z.2.2.length ≤ 2 * z.2.1 }) 60 2 (fun _ => Z32) (fun z => Z9f a1 b1 b2 b3 b4 z.1.1 z.1.2.1 z.1.2.2) (fun z => Z88 a1 b1 b2 b3 b4 z.1.1 z.1.2.1 z.1.2.2) (fun z => Z167 a1 b1 b2 b3 b4 z.1.1 z.1.2.1 z.1.2.2) (fun z => b2.length - z.1.2.1) (fun _ => Z14.none) (fun z => by obtain ⟨⟨v1_1, i1, v1_13⟩, hi⟩ := z; kernel_rfl) (fun z => by obtain ⟨⟨v1_1, i1, v1_13⟩, hi⟩ := z; kernel_rfl) (fun z => by obtain ⟨⟨v1_1, i1, v1_13⟩, hi⟩ := z; kernel_rfl) ?_ z Q h
 rintro ⟨⟨v1_1, i1, v1_13⟩, hi⟩ Q hT
 replace hT : (Z88 a1 b1 b2 b3 b4 v1_1 i1 v1_13).All Q := hT
 replace hi : i1 ≤ b2.length ∧ v1_13.length ≤ 2 * i1 := hi
 show (Z167 a1 b1 b2 b3 b4 v1_1 i1 v1_13).All _
 unfold Z167
 refine ⟨fun h0 => ?_, fun h0 => ?_⟩
 · have hlt : i1 < b2.length := by simpa using h0
   have hd := Z64 hlt
   have hw := Z4e (i := i1) (by omega)
   refine ⟨Z2 (by (try refine fun (_ : _ = _) => ?_); first | omega | (constructor <;> omega)) (Z9), ?_⟩
   refine ⟨fun h1 => ?_, fun h1 => ?_⟩
   · refine ⟨Z2 (by (try refine fun (_ : _ = _) => ?_); unfold Z18 maxLen; (try simp only [List.length_append, List.length_cons, List.length_nil, List.length_drop, List.length_take]); omega) (Z9), ?_⟩
     refine ⟨Z2 (by (try refine fun (_ : _ = _) => ?_); first | omega | (constructor <;> omega)) (Z9), ?_⟩
     refine ⟨Z2 (by (try refine fun (_ : _ = _) => ?_); unfold Z18 maxLen; (try simp only [List.length_append, List.length_cons, List.length_nil, List.length_drop, List.length_take]); omega) (Z9), ?_⟩
     have hF : Z31 a1 b1 b2 b3 b4 (b2.drop i1) v1_1 v1_13 = Z31 a1 b1 b2 b3 b4 (b2.drop (i1 + 1)) true ((v1_13 ++ [(kRC6 a1 b2 b1 b3 b4)]) ++ [(b2.getD i1 default)]) := by rw [hd]; first | exact (Z12 h1 rfl) | simp only [Z31, h0, h1, cond_true, cond_false]
     refine ⟨⟨(true, (i1 + 1), ((v1_13 ++ [(kRC6 a1 b2 b1 b3 b4)]) ++ [(b2.getD i1 default)])), by (first | dsimp only | skip); constructor <;> (try simp only [List.length_append, List.length_cons, List.length_nil]) <;> omega⟩, by show b2.length - (i1 + 1) < b2.length - i1; omega, ?_, ?_⟩
     · show _ = Z9f a1 b1 b2 b3 b4 true (i1 + 1) ((v1_13 ++ [(kRC6 a1 b2 b1 b3 b4)]) ++ [(b2.getD i1 default)])
       unfold Z9f
       simp only [hw]
     · show (Z88 a1 b1 b2 b3 b4 true (i1 + 1) ((v1_13 ++ [(kRC6 a1 b2 b1 b3 b4)]) ++ [(b2.getD i1 default)])).All Q
       unfold Z88 at hT ⊢
       rw [hF] at hT
       exact hT
   · refine ⟨Z2 (by (try refine fun (_ : _ = _) => ?_); first | omega | (constructor <;> omega)) (Z9), ?_⟩
     refine ⟨Z2 (by (try refine fun (_ : _ = _) => ?_); unfold Z18 maxLen; (try simp only [List.length_append, List.length_cons, List.length_nil, List.length_drop, List.length_take]); omega) (Z9), ?_⟩
     have hF : Z31 a1 b1 b2 b3 b4 (b2.drop i1) v1_1 v1_13 = Z31 a1 b1 b2 b3 b4 (b2.drop (i1 + 1)) v1_1 (v1_13 ++ [(b2.getD i1 default)]) := by rw [hd]; first | exact (Z3 h1 rfl) | simp only [Z31, h0, h1, cond_true, cond_false]
     refine ⟨⟨(v1_1, (i1 + 1), (v1_13 ++ [(b2.getD i1 default)])), by (first | dsimp only | skip); constructor <;> (try simp only [List.length_append, List.length_cons, List.length_nil]) <;> omega⟩, by show b2.length - (i1 + 1) < b2.length - i1; omega, ?_, ?_⟩
     · show _ = Z9f a1 b1 b2 b3 b4 v1_1 (i1 + 1) (v1_13 ++ [(b2.getD i1 default)])
       unfold Z9f
       simp only [hw]
     · show (Z88 a1 b1 b2 b3 b4 v1_1 (i1 + 1) (v1_13 ++ [(b2.getD i1 default)])).All Q
       unfold Z88 at hT ⊢
       rw [hF] at hT
       exact hT
 · have hge : ¬ i1 < b2.length := by simpa using h0
   have hd : b2.drop i1 = [] := List.drop_eq_nil_of_le (by omega)
   have hF : Z31 a1 b1 b2 b3 b4 (b2.drop i1) v1_1 v1_13 = (v1_1, v1_13) := by rw [hd]; first | exact rfl | simp only [Z31, h0, cond_true, cond_false]
   unfold Z88 at hT
   rw [hF] at hT
   exact hT
def Z30 (a1 : XCall) : LV → Bool → LV → Bool × LV
 | [], v2_1, v2_13 => (v2_1, v2_13)
 | o2 :: r, v2_1, v2_13 => cond (cond (!v2_1) (Z46 a1.target (o2.name)) false)
  (Z30 a1 r true ((v2_13 ++ [(⟨a1.target, a1.size, a1.zone, (0 : Int), []⟩ : XVol)]) ++ [o2]))
  (Z30 a1 r v2_1 (v2_13 ++ [o2]))
def Z9e (a1 : XCall) (b1 : LZ) (b2 : LV) (b3 : LS) (b4 : LQ) (v2_1 : Bool) (i2 : Nat) (v2_13 : LV) : St :=
 ⟨Za 201 [(0, .ptr 0 0), (3, .ptr 5 0), (4, .ptr 6 0), (8, .int .u64 (0 : Int)), (12, .ptr 7 0), (13, .vec 8), (14, .bool v2_1), (15, .int .i64 (i2 : Int))], (.cells 111 [.vec 1, .vec 2, .vec 3, .vec 4] :: oV (kRC0 b1 a1 b2 b3 b4) b2 b3 b4 [.cells 34 (cc a1), .cells 52 [.int .i64 0, .int .i64 0, .str (⟨#[]⟩ : BA), .int .u64 0], .cells 106 [.str a1.target, .int .i64 a1.size, .str a1.zone, .int .u64 (0 : Int), .nils], .vec false ⟨.vol, v2_13⟩])⟩
abbrev kRC4 (a1 : XCall) := (⟨a1.target, a1.size, a1.zone, (0 : Int), []⟩ : XVol)
def Z166 (a1 : XCall) (b1 : LZ) (b2 : LV) (b3 : LS) (b4 : LQ) (v2_1 : Bool) (i2 : Nat) (v2_13 : LV) : RT :=
 (.ask (decide ((i2 : Int) < (b2.length : Int)))
   (.need [((!v2_1) = true) → (0 ≤ (i2 : Int) ∧ (i2 : Int) < (b2.length : Int))]
     (.ask (cond (!v2_1) (Z46 a1.target ((b2.getD i2 default).name)) false)
       (.need [(v2_13.length + [(kRC4 a1)].length) * 72 ≤ Z18 ∧ v2_13.length + [(kRC4 a1)].length ≤ maxLen]
         (.need [0 ≤ (i2 : Int) ∧ (i2 : Int) < (b2.length : Int)]
           (.need [((v2_13 ++ [(kRC4 a1)]).length + [(b2.getD i2 default)].length) * 72 ≤ Z18 ∧ (v2_13 ++ [(kRC4 a1)]).length + [(b2.getD i2 default)].length ≤ maxLen]
             (.leaf .normal ⟨Za 201 [(0, .ptr 0 0), (3, .ptr 5 0), (4, .ptr 6 0), (8, .int .u64 (0 : Int)), (12, .ptr 7 0), (13, .vec 8), (14, .bool true), (15, .int .i64 (IntKind.i64.wrap ((i2 : Int) + (1 : Int))))], (.cells 111 [.vec 1, .vec 2, .vec 3, .vec 4] :: oV (kRC0 b1 a1 b2 b3 b4) b2 b3 b4 [.cells 34 (cc a1), .cells 52 [.int .i64 0, .int .i64 0, .str (⟨#[]⟩ : BA), .int .u64 0], .cells 106 [.str a1.target, .int .i64 a1.size, .str a1.zone, .int .u64 (0 : Int), .nils], .vec false ⟨.vol, ((v2_13 ++ [(kRC4 a1)]) ++ [(b2.getD i2 default)])⟩])⟩ [0, 1, 2, 3, 4, 5, 6, 7, 12]))))
       (.need [0 ≤ (i2 : Int) ∧ (i2 : Int) < (b2.length : Int)]
         (.need [(v2_13.length + [(b2.getD i2 default)].length) * 72 ≤ Z18 ∧ v2_13.length + [(b2.getD i2 default)].length ≤ maxLen]
           (.leaf .normal ⟨Za 201 [(0, .ptr 0 0), (3, .ptr 5 0), (4, .ptr 6 0), (8, .int .u64 (0 : Int)), (12, .ptr 7 0), (13, .vec 8), (14, .bool v2_1), (15, .int .i64 (IntKind.i64.wrap ((i2 : Int) + (1 : Int))))], (.cells 111 [.vec 1, .vec 2, .vec 3, .vec 4] :: oV (kRC0 b1 a1 b2 b3 b4) b2 b3 b4 [.cells 34 (cc a1), .cells 52 [.int .i64 0, .int .i64 0, .str (⟨#[]⟩ : BA), .int .u64 0], .cells 106 [.str a1.target, .int .i64 a1.size, .str a1.zone, .int .u64 (0 : Int), .nils], .vec false ⟨.vol, (v2_13 ++ [(b2.getD i2 default)])⟩])⟩ [0, 1, 2, 3, 4, 5, 6, 7, 10])))))
   (.leaf (.exit 2) ⟨Za 201 [(0, .ptr 0 0), (3, .ptr 5 0), (4, .ptr 6 0), (8, .int .u64 (0 : Int)), (12, .ptr 7 0), (13, .vec 8), (14, .bool v2_1)], (.cells 111 [.vec 1, .vec 2, .vec 3, .vec 4] :: oV (kRC0 b1 a1 b2 b3 b4) b2 b3 b4 [.cells 34 (cc a1), .cells 52 [.int .i64 0, .int .i64 0, .str (⟨#[]⟩ : BA), .int .u64 0], .cells 106 [.str a1.target, .int .i64 a1.size, .str a1.zone, .int .u64 (0 : Int), .nils], .vec false ⟨.vol, v2_13⟩])⟩ []))
def Z87 (a1 : XCall) (b1 : LZ) (b2 : LV) (b3 : LS) (b4 : LQ) (v2_1 : Bool) (i2 : Nat) (v2_13 : LV) : Tree :=
 .leaf (.exit 2) ⟨Za 201 [(0, .ptr 0 0), (3, .ptr 5 0), (4, .ptr 6 0), (8, .int .u64 (0 : Int)), (12, .ptr 7 0), (13, .vec 8), (14, .bool ((Z30 a1 (b2.drop i2) v2_1 v2_13).1))], (.cells 111 [.vec 1, .vec 2, .vec 3, .vec 4] :: oV (kRC0 b1 a1 b2 b3 b4) b2 b3 b4 [.cells 34 (cc a1), .cells 52 [.int .i64 0, .int .i64 0, .str (⟨#[]⟩ : BA), .int .u64 0], .cells 106 [.str a1.target, .int .i64 a1.size, .str a1.zone, .int .u64 (0 : Int), .nils], .vec false ⟨.vol, (Z30 a1 (b2.drop i2) v2_1 v2_13).2⟩])⟩
theorem Z249 (a1 : XCall) (b1 : LZ) (b2 : LV) (b3 : LS) (b4 : LQ) (hp0 : b1.length ≤ 1000) (hp1 : b2.length ≤ 1000) (hp2 : b3.length ≤ 1000) (hp3 : b4.length ≤ 1000) (hp4 : ∀ v ∈ b2, v.nodes.length ≤ 1000) (hp5 : ∀ v ∈ b2, ZHas b1 v.zone) (hlen : b2.length < 4611686018427387904) (z : { z : Bool × Nat × LV // z.2.1 ≤ b2.length ∧ z.2.2.length ≤ 2 * z.2.1 }) (Q : Exit → St → Prop) (h : (Z87 a1 b1 b2 b3 b4 z.1.1 z.1.2.1 z.1.2.2).All Q) : Tr Tryz.prog 5 (.loop (Z47 Tryz.f83 0)) (Z9e a1 b1 b2 b3 b4 z.1.1 z.1.2.1 z.1.2.2) Q := by
 refine Z60 (kok _ _ _ _ _ _) (E := Z144) (ι := { z : Bool × Nat × LV // z.2.1 ≤ b2.length ∧ z.2.2.length ≤ 2 * z.2.1 }) 60 2 (fun _ => Z32) (fun z => Z9e a1 b1 b2 b3 b4 z.1.1 z.1.2.1 z.1.2.2) (fun z => Z87 a1 b1 b2 b3 b4 z.1.1 z.1.2.1 z.1.2.2) (fun z => Z166 a1 b1 b2 b3 b4 z.1.1 z.1.2.1 z.1.2.2) (fun z => b2.length - z.1.2.1) (fun _ => Z14.none) (fun z => by obtain ⟨⟨v2_1, i2, v2_13⟩, hi⟩ := z; kernel_rfl) (fun z => by obtain ⟨⟨v2_1, i2, v2_13⟩, hi⟩ := z; kernel_rfl) (fun z => by obtain ⟨⟨v2_1, i2, v2_13⟩, hi⟩ := z; kernel_rfl) ?_ z Q h
 rintro ⟨⟨v2_1, i2, v2_13⟩, hi⟩ Q hT
 replace hT : (Z87 a1 b1 b2 b3 b4 v2_1 i2 v2_13).All Q := hT
 replace hi : i2 ≤ b2.length ∧ v2_13.length ≤ 2 * i2 := hi
 show (Z166 a1 b1 b2 b3 b4 v2_1 i2 v2_13).All _
 unfold Z166
 refine ⟨fun h0 => ?_, fun h0 => ?_⟩
 · have hlt : i2 < b2.length := by simpa using h0
   have hd := Z64 hlt
   have hw := Z4e (i := i2) (by omega)
   refine ⟨Z2 (by (try refine fun (_ : _ = _) => ?_); first | omega | (constructor <;> omega)) (Z9), ?_⟩
   refine ⟨fun h1 => ?_, fun h1 => ?_⟩
   · refine ⟨Z2 (by (try refine fun (_ : _ = _) => ?_); unfold Z18 maxLen; (try simp only [List.length_append, List.length_cons, List.length_nil, List.length_drop, List.length_take]); omega) (Z9), ?_⟩
     refine ⟨Z2 (by (try refine fun (_ : _ = _) => ?_); first | omega | (constructor <;> omega)) (Z9), ?_⟩
     refine ⟨Z2 (by (try refine fun (_ : _ = _) => ?_); unfold Z18 maxLen; (try simp only [List.length_append, List.length_cons, List.length_nil, List.length_drop, List.length_take]); omega) (Z9), ?_⟩
     have hF : Z30 a1 (b2.drop i2) v2_1 v2_13 = Z30 a1 (b2.drop (i2 + 1)) true ((v2_13 ++ [(kRC4 a1)]) ++ [(b2.getD i2 default)]) := by rw [hd]; first | exact (Z12 h1 rfl) | simp only [Z30, h0, h1, cond_true, cond_false]
     refine ⟨⟨(true, (i2 + 1), ((v2_13 ++ [(kRC4 a1)]) ++ [(b2.getD i2 default)])), by (first | dsimp only | skip); constructor <;> (try simp only [List.length_append, List.length_cons, List.length_nil]) <;> omega⟩, by show b2.length - (i2 + 1) < b2.length - i2; omega, ?_, ?_⟩
     · show _ = Z9e a1 b1 b2 b3 b4 true (i2 + 1) ((v2_13 ++ [(kRC4 a1)]) ++ [(b2.getD i2 default)])
       unfold Z9e
       simp only [hw]
     · show (Z87 a1 b1 b2 b3 b4 true (i2 + 1) ((v2_13 ++ [(kRC4 a1)]) ++ [(b2.getD i2 default)])).All Q
       unfold Z87 at hT ⊢
       rw [hF] at hT
       exact hT
   · refine ⟨Z2 (by (try refine fun (_ : _ = _) => ?_); first | omega | (constructor <;> omega)) (Z9), ?_⟩
     refine ⟨Z2 (by (try refine fun (_ : _ = _) => ?_); unfold Z18 maxLen; (try simp only [List.length_append, List.length_cons, List.length_nil, List.length_drop, List.length_take]); omega) (Z9), ?_⟩
     have hF : Z30 a1 (b2.drop i2) v2_1 v2_13 = Z30 a1 (b2.drop (i2 + 1)) v2_1 (v2_13 ++ [(b2.getD i2 default)]) := by rw [hd]; first | exact (Z3 h1 rfl) | simp only [Z30, h0, h1, cond_true, cond_false]
     refine ⟨⟨(v2_1, (i2 + 1), (v2_13 ++ [(b2.getD i2 default)])), by (first | dsimp only | skip); constructor <;> (try simp only [List.length_append, List.length_cons, List.length_nil]) <;> omega⟩, by show b2.length - (i2 + 1) < b2.length - i2; omega, ?_, ?_⟩
     · show _ = Z9e a1 b1 b2 b3 b4 v2_1 (i2 + 1) (v2_13 ++ [(b2.getD i2 default)])
       unfold Z9e
       simp only [hw]
     · show (Z87 a1 b1 b2 b3 b4 v2_1 (i2 + 1) (v2_13 ++ [(b2.getD i2 default)])).All Q
       unfold Z87 at hT ⊢
       rw [hF] at hT
       exact hT
 · have hge : ¬ i2 < b2.length := by simpa using h0
   have hd : b2.drop i2 = [] := List.drop_eq_nil_of_le (by omega)
   have hF : Z30 a1 (b2.drop i2) v2_1 v2_13 = (v2_1, v2_13) := by rw [hd]; first | exact rfl | simp only [Z30, h0, cond_true, cond_false]
   unfold Z87 at hT
   rw [hF] at hT
   exact hT
theorem Zd2 (a1 : XCall) (b1 : LZ) (b2 : LV) (b3 : LS) (b4 : LQ) : ∀ (l : LV) (p : Bool) (v : LV), (Z36 a1 b1 b2 b3 b4 l p v).2.length ≤ v.length + 2 * l.length
 | [], p, v => by simp [Z36]
 | o :: r, p, v => by
  unfold Z36
  rw [List.length_cons]
  simp only [Bool.cond_eq_ite]
  repeat' split
  all_goals
   refine Nat.le_trans (Zd2 a1 b1 b2 b3 b4 r _ _) ?_
   (try simp only [List.length_append, List.length_cons, List.length_nil])
   omega
theorem Zb9 (a1 : XCall) (b1 : LZ) (b2 : LV) (b3 : LS) (b4 : LQ) : ∀ (l : LV) (p : Bool) (v : LV), (Z31 a1 b1 b2 b3 b4 l p v).2.length ≤ v.length + 2 * l.length
 | [], p, v => by simp [Z31]
 | o :: r, p, v => by
  unfold Z31
  rw [List.length_cons]
  simp only [Bool.cond_eq_ite]
  repeat' split
  all_goals
   refine Nat.le_trans (Zb9 a1 b1 b2 b3 b4 r _ _) ?_
   (try simp only [List.length_append, List.length_cons, List.length_nil])
   omega
theorem Zb8 (a1 : XCall) : ∀ (l : LV) (p : Bool) (v : LV), (Z30 a1 l p v).2.length ≤ v.length + 2 * l.length
 | [], p, v => by simp [Z30]
 | o :: r, p, v => by
  unfold Z30
  rw [List.length_cons]
  simp only [Bool.cond_eq_ite]
  repeat' split
  all_goals
   refine Nat.le_trans (Zb8 a1 r _ _) ?_
   (try simp only [List.length_append, List.length_cons, List.length_nil])
   omega
def Zc (a1 : XCall) (b1 : LZ) (b2 : LV) (b3 : LS) (b4 : LQ) : XRes × LZ × LV × LS × LQ :=
 cond (decide ((Z5 a1.target b1 b2 b3 b4) ≥ (0 : Int)))
  (cond (decide (((b2.getD ((Z5 a1.target b1 b2 b3 b4).toNat) default).size) < a1.size))
    ((Z8 (12 : Int)), b1, b2, b3, b4)
    ((⟨(0 : Int), ((b2.getD ((Z5 a1.target b1 b2 b3 b4).toNat) default).size), (b2.getD ((Z5 a1.target b1 b2 b3 b4).toNat) default).zone, ((b2.getD ((Z5 a1.target b1 b2 b3 b4).toNat) default).tag)⟩ : XRes), b1, b2, b3, b4))
  (cond (decide ((Z16 a1.zone b1 b2 b3 b4) < (0 : Int)))
    ((Z8 (5 : Int)), b1, b2, b3, b4)
    (cond (!(decide (a1.source = (⟨#[]⟩ : BA))))
      (cond (decide ((Z24 a1.source b1 b2 b3 b4) ≥ (0 : Int)))
        (cond (decide (((b3.getD ((Z24 a1.source b1 b2 b3 b4).toNat) default).size) > a1.size))
          ((Z8 (12 : Int)), b1, b2, b3, b4)
          (cond (decide ((b2.length : Int) ≥ (64 : Int)))
            ((Z8 (7 : Int)), b1, b2, b3, b4)
            (cond (decide (((b1.getD ((Z16 a1.zone b1 b2 b3 b4).toNat) default).room) < a1.size))
              ((Z8 (11 : Int)), b1, b2, b3, b4)
              (cond (!((Z36 a1 b1 b2 b3 b4 b2 false []).1))
                ((⟨(0 : Int), a1.size, a1.zone, ((b3.getD ((Z24 a1.source b1 b2 b3 b4).toNat) default).tag)⟩ : XRes), (b1.set ((Z16 a1.zone b1 b2 b3 b4).toNat) (⟨(b1.getD ((Z16 a1.zone b1 b2 b3 b4).toNat) default).name, (IntKind.i64.wrap (((b1.getD ((Z16 a1.zone b1 b2 b3 b4).toNat) default).room) - a1.size))⟩ : XZone)), (((Z36 a1 b1 b2 b3 b4 b2 false []).2) ++ [(⟨a1.target, a1.size, a1.zone, ((b3.getD ((Z24 a1.source b1 b2 b3 b4).toNat) default).tag), []⟩ : XVol)]), b3, b4)
                ((⟨(0 : Int), a1.size, a1.zone, ((b3.getD ((Z24 a1.source b1 b2 b3 b4).toNat) default).tag)⟩ : XRes), (b1.set ((Z16 a1.zone b1 b2 b3 b4).toNat) (⟨(b1.getD ((Z16 a1.zone b1 b2 b3 b4).toNat) default).name, (IntKind.i64.wrap (((b1.getD ((Z16 a1.zone b1 b2 b3 b4).toNat) default).room) - a1.size))⟩ : XZone)), (Z36 a1 b1 b2 b3 b4 b2 false []).2, b3, b4)))))
        (cond (decide ((Z5 a1.source b1 b2 b3 b4) ≥ (0 : Int)))
          (cond (decide (((b2.getD ((Z5 a1.source b1 b2 b3 b4).toNat) default).size) > a1.size))
            ((Z8 (12 : Int)), b1, b2, b3, b4)
            (cond (decide ((b2.length : Int) ≥ (64 : Int)))
              ((Z8 (7 : Int)), b1, b2, b3, b4)
              (cond (decide (((b1.getD ((Z16 a1.zone b1 b2 b3 b4).toNat) default).room) < a1.size))
                ((Z8 (11 : Int)), b1, b2, b3, b4)
                (cond (!((Z31 a1 b1 b2 b3 b4 b2 false []).1))
                  ((⟨(0 : Int), a1.size, a1.zone, ((b2.getD ((Z5 a1.source b1 b2 b3 b4).toNat) default).tag)⟩ : XRes), (b1.set ((Z16 a1.zone b1 b2 b3 b4).toNat) (⟨(b1.getD ((Z16 a1.zone b1 b2 b3 b4).toNat) default).name, (IntKind.i64.wrap (((b1.getD ((Z16 a1.zone b1 b2 b3 b4).toNat) default).room) - a1.size))⟩ : XZone)), (((Z31 a1 b1 b2 b3 b4 b2 false []).2) ++ [(⟨a1.target, a1.size, a1.zone, ((b2.getD ((Z5 a1.source b1 b2 b3 b4).toNat) default).tag), []⟩ : XVol)]), b3, b4)
                  ((⟨(0 : Int), a1.size, a1.zone, ((b2.getD ((Z5 a1.source b1 b2 b3 b4).toNat) default).tag)⟩ : XRes), (b1.set ((Z16 a1.zone b1 b2 b3 b4).toNat) (⟨(b1.getD ((Z16 a1.zone b1 b2 b3 b4).toNat) default).name, (IntKind.i64.wrap (((b1.getD ((Z16 a1.zone b1 b2 b3 b4).toNat) default).room) - a1.size))⟩ : XZone)), (Z31 a1 b1 b2 b3 b4 b2 false []).2, b3, b4)))))
          ((Z8 (5 : Int)), b1, b2, b3, b4)))
      (cond (decide ((0 : Int) > a1.size))
        ((Z8 (12 : Int)), b1, b2, b3, b4)
        (cond (decide ((b2.length : Int) ≥ (64 : Int)))
          ((Z8 (7 : Int)), b1, b2, b3, b4)
          (cond (decide (((b1.getD ((Z16 a1.zone b1 b2 b3 b4).toNat) default).room) < a1.size))
            ((Z8 (11 : Int)), b1, b2, b3, b4)
            (cond (!((Z30 a1 b2 false []).1))
              ((⟨(0 : Int), a1.size, a1.zone, (0 : Int)⟩ : XRes), (b1.set ((Z16 a1.zone b1 b2 b3 b4).toNat) (⟨(b1.getD ((Z16 a1.zone b1 b2 b3 b4).toNat) default).name, (IntKind.i64.wrap (((b1.getD ((Z16 a1.zone b1 b2 b3 b4).toNat) default).room) - a1.size))⟩ : XZone)), (((Z30 a1 b2 false []).2) ++ [(⟨a1.target, a1.size, a1.zone, (0 : Int), []⟩ : XVol)]), b3, b4)
              ((⟨(0 : Int), a1.size, a1.zone, (0 : Int)⟩ : XRes), (b1.set ((Z16 a1.zone b1 b2 b3 b4).toNat) (⟨(b1.getD ((Z16 a1.zone b1 b2 b3 b4).toNat) default).name, (IntKind.i64.wrap (((b1.getD ((Z16 a1.zone b1 b2 b3 b4).toNat) default).room) - a1.size))⟩ : XZone)), (Z30 a1 b2 false []).2, b3, b4)))))))
abbrev kRC3 := (Z8 (12 : Int))
abbrev kRC7 := (Z8 (11 : Int))
def rD_createR (a1 : XCall) (b1 : LZ) (b2 : LV) (b3 : LS) (b4 : LQ) : RT :=
 (.need [b1.length ≤ 1000, b2.length ≤ 1000, b3.length ≤ 1000, b4.length ≤ 1000]
   (.ask (decide ((Z5 a1.target b1 b2 b3 b4) ≥ (0 : Int)))
     (.need [0 ≤ (Z5 a1.target b1 b2 b3 b4) ∧ (Z5 a1.target b1 b2 b3 b4) < (b2.length : Int)]
       (.ask (decide (((b2.getD ((Z5 a1.target b1 b2 b3 b4).toNat) default).size) < a1.size))
         (.leaf .ret ⟨Za 201 [(4, .ptr 5 0)], (.cells 111 [.vec 1, .vec 2, .vec 3, .vec 4] :: oV b1 b2 b3 b4 [.cells 52 [.int .i64 ((kRC3).err), .int .i64 ((kRC3).size), .str ((kRC3).zone), .int .u64 ((kRC3).tag)]])⟩ [0, 1, 2, 3, 4, 6])
         (.leaf .ret ⟨Za 201 [(4, .ptr 5 0)], (.cells 111 [.vec 1, .vec 2, .vec 3, .vec 4] :: oV b1 b2 b3 b4 [.cells 52 [.int .i64 0, .int .i64 ((b2.getD ((Z5 a1.target b1 b2 b3 b4).toNat) default).size), .str ((b2.getD ((Z5 a1.target b1 b2 b3 b4).toNat) default).zone), .int .u64 ((b2.getD ((Z5 a1.target b1 b2 b3 b4).toNat) default).tag)]])⟩ [0, 1, 2, 3, 4, 6])))
     (.need [b1.length ≤ 1000, b2.length ≤ 1000, b3.length ≤ 1000, b4.length ≤ 1000]
       (.ask (decide ((Z16 a1.zone b1 b2 b3 b4) < (0 : Int)))
         (.leaf .ret ⟨Za 201 [(4, .ptr 5 0)], (.cells 111 [.vec 1, .vec 2, .vec 3, .vec 4] :: oV b1 b2 b3 b4 [.cells 52 [.int .i64 ((Z8 (5 : Int)).err), .int .i64 ((Z8 (5 : Int)).size), .str ((Z8 (5 : Int)).zone), .int .u64 ((Z8 (5 : Int)).tag)]])⟩ [0, 1, 2, 3, 4, 6])
         (.ask (!(decide (a1.source = (⟨#[]⟩ : BA))))
           (.need [b1.length ≤ 1000, b2.length ≤ 1000, b3.length ≤ 1000, b4.length ≤ 1000, b1.length ≤ 1000, b2.length ≤ 1000, b3.length ≤ 1000, b4.length ≤ 1000]
             (.ask (decide ((Z24 a1.source b1 b2 b3 b4) ≥ (0 : Int)))
               (.need [0 ≤ (Z24 a1.source b1 b2 b3 b4) ∧ (Z24 a1.source b1 b2 b3 b4) < (b3.length : Int), 0 ≤ (Z24 a1.source b1 b2 b3 b4) ∧ (Z24 a1.source b1 b2 b3 b4) < (b3.length : Int)]
                 (.ask (decide (((b3.getD ((Z24 a1.source b1 b2 b3 b4).toNat) default).size) > a1.size))
                   (.leaf .ret ⟨Za 201 [(4, .ptr 5 0)], (.cells 111 [.vec 1, .vec 2, .vec 3, .vec 4] :: oV b1 b2 b3 b4 [.cells 52 [.int .i64 ((kRC3).err), .int .i64 ((kRC3).size), .str ((kRC3).zone), .int .u64 ((kRC3).tag)]])⟩ [0, 1, 2, 3, 4, 6])
                   (.ask (decide ((b2.length : Int) ≥ (64 : Int)))
                     (.leaf .ret ⟨Za 201 [(4, .ptr 5 0)], (.cells 111 [.vec 1, .vec 2, .vec 3, .vec 4] :: oV b1 b2 b3 b4 [.cells 52 [.int .i64 ((Z8 (7 : Int)).err), .int .i64 ((Z8 (7 : Int)).size), .str ((Z8 (7 : Int)).zone), .int .u64 ((Z8 (7 : Int)).tag)]])⟩ [0, 1, 2, 3, 4, 6])
                     (.need [0 ≤ (Z16 a1.zone b1 b2 b3 b4) ∧ (Z16 a1.zone b1 b2 b3 b4) < (b1.length : Int)]
                       (.ask (decide (((b1.getD ((Z16 a1.zone b1 b2 b3 b4).toNat) default).room) < a1.size))
                         (.leaf .ret ⟨Za 201 [(4, .ptr 5 0)], (.cells 111 [.vec 1, .vec 2, .vec 3, .vec 4] :: oV b1 b2 b3 b4 [.cells 52 [.int .i64 ((kRC7).err), .int .i64 ((kRC7).size), .str ((kRC7).zone), .int .u64 ((kRC7).tag)]])⟩ [0, 1, 2, 3, 4, 6])
                         (.need [0 ≤ (Z16 a1.zone b1 b2 b3 b4) ∧ (Z16 a1.zone b1 b2 b3 b4) < (b1.length : Int), 0 ≤ (Z16 a1.zone b1 b2 b3 b4) ∧ (Z16 a1.zone b1 b2 b3 b4) < (b1.length : Int)]
                           (.ask (!((Z36 a1 b1 b2 b3 b4 b2 false []).1))
                             (.need [(((Z36 a1 b1 b2 b3 b4 b2 false []).2).length + [(kRC5 a1 b3 b1 b2 b4)].length) * 72 ≤ Z18 ∧ ((Z36 a1 b1 b2 b3 b4 b2 false []).2).length + [(kRC5 a1 b3 b1 b2 b4)].length ≤ maxLen]
                               (.leaf .ret ⟨Za 201 [(4, .ptr 5 0)], (.cells 111 [.vec 1, .vec 6, .vec 3, .vec 4] :: oV (kRC0 b1 a1 b2 b3 b4) b2 b3 b4 [.cells 52 [.int .i64 0, .int .i64 a1.size, .str a1.zone, .int .u64 (kRC1 b3 a1 b1 b2 b4)], .vec false ⟨.vol, (((Z36 a1 b1 b2 b3 b4 b2 false []).2) ++ [(kRC5 a1 b3 b1 b2 b4)])⟩])⟩ [0, 1, 2, 3, 4, 6, 10]))
                             (.leaf .ret ⟨Za 201 [(4, .ptr 5 0)], (.cells 111 [.vec 1, .vec 6, .vec 3, .vec 4] :: oV (kRC0 b1 a1 b2 b3 b4) b2 b3 b4 [.cells 52 [.int .i64 0, .int .i64 a1.size, .str a1.zone, .int .u64 (kRC1 b3 a1 b1 b2 b4)], .vec false ⟨.vol, (Z36 a1 b1 b2 b3 b4 b2 false []).2⟩])⟩ [0, 1, 2, 3, 4, 6, 8]))))))))
               (.ask (decide ((Z5 a1.source b1 b2 b3 b4) ≥ (0 : Int)))
                 (.need [0 ≤ (Z5 a1.source b1 b2 b3 b4) ∧ (Z5 a1.source b1 b2 b3 b4) < (b2.length : Int), 0 ≤ (Z5 a1.source b1 b2 b3 b4) ∧ (Z5 a1.source b1 b2 b3 b4) < (b2.length : Int)]
                   (.ask (decide (((b2.getD ((Z5 a1.source b1 b2 b3 b4).toNat) default).size) > a1.size))
                     (.leaf .ret ⟨Za 201 [(4, .ptr 5 0)], (.cells 111 [.vec 1, .vec 2, .vec 3, .vec 4] :: oV b1 b2 b3 b4 [.cells 52 [.int .i64 ((kRC3).err), .int .i64 ((kRC3).size), .str ((kRC3).zone), .int .u64 ((kRC3).tag)]])⟩ [0, 1, 2, 3, 4, 6])
                     (.ask (decide ((b2.length : Int) ≥ (64 : Int)))
                       (.leaf .ret ⟨Za 201 [(4, .ptr 5 0)], (.cells 111 [.vec 1, .vec 2, .vec 3, .vec 4] :: oV b1 b2 b3 b4 [.cells 52 [.int .i64 ((Z8 (7 : Int)).err), .int .i64 ((Z8 (7 : Int)).size), .str ((Z8 (7 : Int)).zone), .int .u64 ((Z8 (7 : Int)).tag)]])⟩ [0, 1, 2, 3, 4, 6])
                       (.need [0 ≤ (Z16 a1.zone b1 b2 b3 b4) ∧ (Z16 a1.zone b1 b2 b3 b4) < (b1.length : Int)]
                         (.ask (decide (((b1.getD ((Z16 a1.zone b1 b2 b3 b4).toNat) default).room) < a1.size))
                           (.leaf .ret ⟨Za 201 [(4, .ptr 5 0)], (.cells 111 [.vec 1, .vec 2, .vec 3, .vec 4] :: oV b1 b2 b3 b4 [.cells 52 [.int .i64 ((kRC7).err), .int .i64 ((kRC7).size), .str ((kRC7).zone), .int .u64 ((kRC7).tag)]])⟩ [0, 1, 2, 3, 4, 6])
                           (.need [0 ≤ (Z16 a1.zone b1 b2 b3 b4) ∧ (Z16 a1.zone b1 b2 b3 b4) < (b1.length : Int), 0 ≤ (Z16 a1.zone b1 b2 b3 b4) ∧ (Z16 a1.zone b1 b2 b3 b4) < (b1.length : Int)]
                             (.ask (!((Z31 a1 b1 b2 b3 b4 b2 false []).1))
                               (.need [(((Z31 a1 b1 b2 b3 b4 b2 false []).2).length + [(kRC6 a1 b2 b1 b3 b4)].length) * 72 ≤ Z18 ∧ ((Z31 a1 b1 b2 b3 b4 b2 false []).2).length + [(kRC6 a1 b2 b1 b3 b4)].length ≤ maxLen]
                                 (.leaf .ret ⟨Za 201 [(4, .ptr 5 0)], (.cells 111 [.vec 1, .vec 6, .vec 3, .vec 4] :: oV (kRC0 b1 a1 b2 b3 b4) b2 b3 b4 [.cells 52 [.int .i64 0, .int .i64 a1.size, .str a1.zone, .int .u64 (kRC2 b2 a1 b1 b3 b4)], .vec false ⟨.vol, (((Z31 a1 b1 b2 b3 b4 b2 false []).2) ++ [(kRC6 a1 b2 b1 b3 b4)])⟩])⟩ [0, 1, 2, 3, 4, 6, 10]))
                               (.leaf .ret ⟨Za 201 [(4, .ptr 5 0)], (.cells 111 [.vec 1, .vec 6, .vec 3, .vec 4] :: oV (kRC0 b1 a1 b2 b3 b4) b2 b3 b4 [.cells 52 [.int .i64 0, .int .i64 a1.size, .str a1.zone, .int .u64 (kRC2 b2 a1 b1 b3 b4)], .vec false ⟨.vol, (Z31 a1 b1 b2 b3 b4 b2 false []).2⟩])⟩ [0, 1, 2, 3, 4, 6, 8]))))))))
                 (.leaf .ret ⟨Za 201 [(4, .ptr 5 0)], (.cells 111 [.vec 1, .vec 2, .vec 3, .vec 4] :: oV b1 b2 b3 b4 [.cells 52 [.int .i64 ((Z8 (5 : Int)).err), .int .i64 ((Z8 (5 : Int)).size), .str ((Z8 (5 : Int)).zone), .int .u64 ((Z8 (5 : Int)).tag)]])⟩ [0, 1, 2, 3, 4, 6]))))
           (.ask (decide ((0 : Int) > a1.size))
             (.leaf .ret ⟨Za 201 [(4, .ptr 5 0)], (.cells 111 [.vec 1, .vec 2, .vec 3, .vec 4] :: oV b1 b2 b3 b4 [.cells 52 [.int .i64 ((kRC3).err), .int .i64 ((kRC3).size), .str ((kRC3).zone), .int .u64 ((kRC3).tag)]])⟩ [0, 1, 2, 3, 4, 6])
             (.ask (decide ((b2.length : Int) ≥ (64 : Int)))
               (.leaf .ret ⟨Za 201 [(4, .ptr 5 0)], (.cells 111 [.vec 1, .vec 2, .vec 3, .vec 4] :: oV b1 b2 b3 b4 [.cells 52 [.int .i64 ((Z8 (7 : Int)).err), .int .i64 ((Z8 (7 : Int)).size), .str ((Z8 (7 : Int)).zone), .int .u64 ((Z8 (7 : Int)).tag)]])⟩ [0, 1, 2, 3, 4, 6])
               (.need [0 ≤ (Z16 a1.zone b1 b2 b3 b4) ∧ (Z16 a1.zone b1 b2 b3 b4) < (b1.length : Int)]
                 (.ask (decide (((b1.getD ((Z16 a1.zone b1 b2 b3 b4).toNat) default).room) < a1.size))
                   (.leaf .ret ⟨Za 201 [(4, .ptr 5 0)], (.cells 111 [.vec 1, .vec 2, .vec 3, .vec 4] :: oV b1 b2 b3 b4 [.cells 52 [.int .i64 ((kRC7).err), .int .i64 ((kRC7).size), .str ((kRC7).zone), .int .u64 ((kRC7).tag)]])⟩ [0, 1, 2, 3, 4, 6])
                   (.need [0 ≤ (Z16 a1.zone b1 b2 b3 b4) ∧ (Z16 a1.zone b1 b2 b3 b4) < (b1.length : Int), 0 ≤ (Z16 a1.zone b1 b2 b3 b4) ∧ (Z16 a1.zone b1 b2 b3 b4) < (b1.length : Int)]
                     (.ask (!((Z30 a1 b2 false []).1))
                       (.need [(((Z30 a1 b2 false []).2).length + [(kRC4 a1)].length) * 72 ≤ Z18 ∧ ((Z30 a1 b2 false []).2).length + [(kRC4 a1)].length ≤ maxLen]
                         (.leaf .ret ⟨Za 201 [(4, .ptr 5 0)], (.cells 111 [.vec 1, .vec 6, .vec 3, .vec 4] :: oV (kRC0 b1 a1 b2 b3 b4) b2 b3 b4 [.cells 52 [.int .i64 0, .int .i64 a1.size, .str a1.zone, .int .u64 (0 : Int)], .vec false ⟨.vol, (((Z30 a1 b2 false []).2) ++ [(kRC4 a1)])⟩])⟩ [0, 1, 2, 3, 4, 6, 10]))
                       (.leaf .ret ⟨Za 201 [(4, .ptr 5 0)], (.cells 111 [.vec 1, .vec 6, .vec 3, .vec 4] :: oV (kRC0 b1 a1 b2 b3 b4) b2 b3 b4 [.cells 52 [.int .i64 0, .int .i64 a1.size, .str a1.zone, .int .u64 (0 : Int)], .vec false ⟨.vol, (Z30 a1 b2 false []).2⟩])⟩ [0, 1, 2, 3, 4, 6, 8]))))))))))))
theorem rD_createF_tr (a1 : XCall) (b1 : LZ) (b2 : LV) (b3 : LS) (b4 : LQ) (hp0 : b1.length ≤ 1000) (hp1 : b2.length ≤ 1000) (hp2 : b3.length ≤ 1000) (hp3 : b4.length ≤ 1000) (hp4 : ∀ v ∈ b2, v.nodes.length ≤ 1000) (hp5 : ∀ v ∈ b2, ZHas b1 v.zone) : Tr Tryz.prog 5 (Z3c Tryz.f83) (Z27 Tryz.f83 [.ptr 0 0, .agg (cc a1)] (.cells 111 [.vec 1, .vec 2, .vec 3, .vec 4] :: oV b1 b2 b3 b4 [])) (Z48 Tryz.prog Tryz.f83 (.agg [.int .i64 (((Zc a1 b1 b2 b3 b4).1).err), .int .i64 (((Zc a1 b1 b2 b3 b4).1).size), .str (((Zc a1 b1 b2 b3 b4).1).zone), .int .u64 (((Zc a1 b1 b2 b3 b4).1).tag)]) (.cells 111 [.vec 5, .vec 6, .vec 7, .vec 8] :: .dead :: .dead :: .dead :: .dead :: oV ((Zc a1 b1 b2 b3 b4).2.1) ((Zc a1 b1 b2 b3 b4).2.2.1) ((Zc a1 b1 b2 b3 b4).2.2.2.1) ((Zc a1 b1 b2 b3 b4).2.2.2.2) [])) := by
 refine Tr.post ?_
 refine Z2f (kok _ _ _ _ _ _) (E := Z144) (L := (Z102 [(2, [(51, true), (61, true)], Zac a1 b1 b2 b3 b4 false 0 [], [], Z97 a1 b1 b2 b3 b4 false 0 []), (2, [(51, true), (61, false)], Z9f a1 b1 b2 b3 b4 false 0 [], [], Z88 a1 b1 b2 b3 b4 false 0 []), (2, [(51, false)], Z9e a1 b1 b2 b3 b4 false 0 [], [], Z87 a1 b1 b2 b3 b4 false 0 [])])) 60 9999 (Z14.sel (by kernel_rfl) ⟨⟨by kernel_rfl, by kernel_rfl, by kernel_rfl, Z47 Tryz.f83 0, by kernel_rfl, (fun Q h => rD_createL_loop a1 b1 b2 b3 b4 hp0 hp1 hp2 hp3 hp4 hp5 (by omega) ⟨(false, 0, []), ⟨Nat.zero_le _, Nat.zero_le _⟩⟩ Q h)⟩, ⟨by kernel_rfl, by kernel_rfl, by kernel_rfl, Z47 Tryz.f83 0, by kernel_rfl, (fun Q h => Z24a a1 b1 b2 b3 b4 hp0 hp1 hp2 hp3 hp4 hp5 (by omega) ⟨(false, 0, []), ⟨Nat.zero_le _, Nat.zero_le _⟩⟩ Q h)⟩, ⟨by kernel_rfl, by kernel_rfl, by kernel_rfl, Z47 Tryz.f83 0, by kernel_rfl, (fun Q h => Z249 a1 b1 b2 b3 b4 hp0 hp1 hp2 hp3 hp4 hp5 (by omega) ⟨(false, 0, []), ⟨Nat.zero_le _, Nat.zero_le _⟩⟩ Q h)⟩, trivial⟩) (rD_createR a1 b1 b2 b3 b4) (by kernel_rfl) (by kernel_rfl) (by kernel_rfl) ?_
 unfold rD_createR
 refine ⟨(by (iterate 4 refine Z2 (by first | assumption | omega | ((try intro _); (try simp only [decide_eq_true_eq, decide_eq_false_iff_not, Bool.cond_false_right, Bool.cond_true_right, Bool.cond_true_left, Bool.cond_false_left, Bool.and_eq_true, Bool.or_eq_true, Bool.not_eq_true', Z18, maxLen, List.length_cons, List.length_nil, List.length_append, Z44] at *); omega)) ?_); exact Z9), ?_⟩
 refine ⟨fun h0 => ?_, fun h0 => ?_⟩
 · refine ⟨Z2 (by (try refine fun (_ : _ = _) => ?_); (try have hq := rngs a1 b1 b2 b3 b4); (try simp only [decide_eq_true_eq, decide_eq_false_iff_not, Bool.not_eq_false'] at *); first | omega | (constructor <;> omega)) (Z9), ?_⟩
   refine ⟨fun h1 => ?_, fun h1 => ?_⟩
   · have hF : Zc a1 b1 b2 b3 b4 = ((kRC3), b1, b2, b3, b4) := by first | exact (Z12 h0 (Z12 h1 rfl)) | simp only [Zc, h0, h1, cond_true, cond_false]
     exact ⟨_, ((((Turn.moveC 0 0 1 6 rfl rfl rfl (by simp [hset, oM, oV])).trans (Turn.moveC 0 1 2 7 rfl rfl rfl (by simp [hset, oM, oV]))).trans (Turn.moveC 0 2 3 8 rfl rfl rfl (by simp [hset, oM, oV]))).trans (Turn.moveC 0 3 4 9 rfl rfl rfl (by simp [hset, oM, oV]))).trans (Turn.fits (p := ⟨Za 201 [(4, .ptr 9 0)], (.cells 111 [.vec 5, .vec 6, .vec 7, .vec 8] :: .dead :: .dead :: .dead :: .dead :: oV b1 b2 b3 b4 [.cells 52 [.int .i64 ((kRC3).err), .int .i64 ((kRC3).size), .str ((kRC3).zone), .int .u64 ((kRC3).tag)]])⟩) [0, 1, 2, 3, 4, 6, 7, 8, 9, 5] (by kernel_rfl) (by kernel_rfl) (by kernel_rfl) (by kernel_rfl)), trivial, .inl (by (try rw [hF]); kernel_rfl), by (try rw [hF]); kernel_rfl⟩
   · have hF : Zc a1 b1 b2 b3 b4 = ((⟨(0 : Int), ((b2.getD ((Z5 a1.target b1 b2 b3 b4).toNat) default).size), (b2.getD ((Z5 a1.target b1 b2 b3 b4).toNat) default).zone, ((b2.getD ((Z5 a1.target b1 b2 b3 b4).toNat) default).tag)⟩ : XRes), b1, b2, b3, b4) := by first | exact (Z12 h0 (Z3 h1 rfl)) | simp only [Zc, h0, h1, cond_true, cond_false]
     exact ⟨_, ((((Turn.moveC 0 0 1 6 rfl rfl rfl (by simp [hset, oM, oV])).trans (Turn.moveC 0 1 2 7 rfl rfl rfl (by simp [hset, oM, oV]))).trans (Turn.moveC 0 2 3 8 rfl rfl rfl (by simp [hset, oM, oV]))).trans (Turn.moveC 0 3 4 9 rfl rfl rfl (by simp [hset, oM, oV]))).trans (Turn.fits (p := ⟨Za 201 [(4, .ptr 9 0)], (.cells 111 [.vec 5, .vec 6, .vec 7, .vec 8] :: .dead :: .dead :: .dead :: .dead :: oV b1 b2 b3 b4 [.cells 52 [.int .i64 0, .int .i64 ((b2.getD ((Z5 a1.target b1 b2 b3 b4).toNat) default).size), .str ((b2.getD ((Z5 a1.target b1 b2 b3 b4).toNat) default).zone), .int .u64 ((b2.getD ((Z5 a1.target b1 b2 b3 b4).toNat) default).tag)]])⟩) [0, 1, 2, 3, 4, 6, 7, 8, 9, 5] (by kernel_rfl) (by kernel_rfl) (by kernel_rfl) (by kernel_rfl)), trivial, .inl (by (try rw [hF]); kernel_rfl), by (try rw [hF]); kernel_rfl⟩
 · refine ⟨(by (iterate 4 refine Z2 (by first | assumption | omega | ((try intro _); (try simp only [decide_eq_true_eq, decide_eq_false_iff_not, Bool.cond_false_right, Bool.cond_true_right, Bool.cond_true_left, Bool.cond_false_left, Bool.and_eq_true, Bool.or_eq_true, Bool.not_eq_true', Z18, maxLen, List.length_cons, List.length_nil, List.length_append, Z44] at *); omega)) ?_); exact Z9), ?_⟩
   refine ⟨fun h1 => ?_, fun h1 => ?_⟩
   · have hF : Zc a1 b1 b2 b3 b4 = ((Z8 (5 : Int)), b1, b2, b3, b4) := by first | exact (Z3 h0 (Z12 h1 rfl)) | simp only [Zc, h0, h1, cond_true, cond_false]
     exact ⟨_, ((((Turn.moveC 0 0 1 6 rfl rfl rfl (by simp [hset, oM, oV])).trans (Turn.moveC 0 1 2 7 rfl rfl rfl (by simp [hset, oM, oV]))).trans (Turn.moveC 0 2 3 8 rfl rfl rfl (by simp [hset, oM, oV]))).trans (Turn.moveC 0 3 4 9 rfl rfl rfl (by simp [hset, oM, oV]))).trans (Turn.fits (p := ⟨Za 201 [(4, .ptr 9 0)], (.cells 111 [.vec 5, .vec 6, .vec 7, .vec 8] :: .dead :: .dead :: .dead :: .dead :: oV b1 b2 b3 b4 [.cells 52 [.int .i64 ((Z8 (5 : Int)).err), .int .i64 ((Z8 (5 : Int)).size), .str ((Z8 (5 : Int)).zone), .int .u64 ((Z8 (5 : Int)).tag)]])⟩) [0, 1, 2, 3, 4, 6, 7, 8, 9, 5] (by kernel_rfl) (by kernel_rfl) (by kernel_rfl) (by kernel_rfl)), trivial, .inl (by (try rw [hF]); kernel_rfl), by (try rw [hF]); kernel_rfl⟩
   · refine ⟨fun h2 => ?_, fun h2 => ?_⟩
     · refine ⟨(by (iterate 8 refine Z2 (by first | assumption | omega | ((try intro _); (try simp only [decide_eq_true_eq, decide_eq_false_iff_not, Bool.cond_false_right, Bool.cond_true_right, Bool.cond_true_left, Bool.cond_false_left, Bool.and_eq_true, Bool.or_eq_true, Bool.not_eq_true', Z18, maxLen, List.length_cons, List.length_nil, List.length_append, Z44] at *); omega)) ?_); exact Z9), ?_⟩
       refine ⟨fun h3 => ?_, fun h3 => ?_⟩
       · refine ⟨(by (iterate 2 refine Z2 (by (try refine fun (_ : _ = _) => ?_); (try have hq := rngs a1 b1 b2 b3 b4); (try simp only [decide_eq_true_eq, decide_eq_false_iff_not, Bool.not_eq_false'] at *); first | omega | (constructor <;> omega)) ?_); exact Z9), ?_⟩
         refine ⟨fun h4 => ?_, fun h4 => ?_⟩
         · have hF : Zc a1 b1 b2 b3 b4 = ((kRC3), b1, b2, b3, b4) := by first | exact (Z3 h0 (Z3 h1 (Z12 h2 (Z12 h3 (Z12 h4 rfl))))) | simp only [Zc, h0, h1, h2, h3, h4, cond_true, cond_false]
           exact ⟨_, ((((Turn.moveC 0 0 1 6 rfl rfl rfl (by simp [hset, oM, oV])).trans (Turn.moveC 0 1 2 7 rfl rfl rfl (by simp [hset, oM, oV]))).trans (Turn.moveC 0 2 3 8 rfl rfl rfl (by simp [hset, oM, oV]))).trans (Turn.moveC 0 3 4 9 rfl rfl rfl (by simp [hset, oM, oV]))).trans (Turn.fits (p := ⟨Za 201 [(4, .ptr 9 0)], (.cells 111 [.vec 5, .vec 6, .vec 7, .vec 8] :: .dead :: .dead :: .dead :: .dead :: oV b1 b2 b3 b4 [.cells 52 [.int .i64 ((kRC3).err), .int .i64 ((kRC3).size), .str ((kRC3).zone), .int .u64 ((kRC3).tag)]])⟩) [0, 1, 2, 3, 4, 6, 7, 8, 9, 5] (by kernel_rfl) (by kernel_rfl) (by kernel_rfl) (by kernel_rfl)), trivial, .inl (by (try rw [hF]); kernel_rfl), by (try rw [hF]); kernel_rfl⟩
         · refine ⟨fun h5 => ?_, fun h5 => ?_⟩
           · have hF : Zc a1 b1 b2 b3 b4 = ((Z8 (7 : Int)), b1, b2, b3, b4) := by first | exact (Z3 h0 (Z3 h1 (Z12 h2 (Z12 h3 (Z3 h4 (Z12 h5 rfl)))))) | simp only [Zc, h0, h1, h2, h3, h4, h5, cond_true, cond_false]
             exact ⟨_, ((((Turn.moveC 0 0 1 6 rfl rfl rfl (by simp [hset, oM, oV])).trans (Turn.moveC 0 1 2 7 rfl rfl rfl (by simp [hset, oM, oV]))).trans (Turn.moveC 0 2 3 8 rfl rfl rfl (by simp [hset, oM, oV]))).trans (Turn.moveC 0 3 4 9 rfl rfl rfl (by simp [hset, oM, oV]))).trans (Turn.fits (p := ⟨Za 201 [(4, .ptr 9 0)], (.cells 111 [.vec 5, .vec 6, .vec 7, .vec 8] :: .dead :: .dead :: .dead :: .dead :: oV b1 b2 b3 b4 [.cells 52 [.int .i64 ((Z8 (7 : Int)).err), .int .i64 ((Z8 (7 : Int)).size), .str ((Z8 (7 : Int)).zone), .int .u64 ((Z8 (7 : Int)).tag)]])⟩) [0, 1, 2, 3, 4, 6, 7, 8, 9, 5] (by kernel_rfl) (by kernel_rfl) (by kernel_rfl) (by kernel_rfl)), trivial, .inl (by (try rw [hF]); kernel_rfl), by (try rw [hF]); kernel_rfl⟩
           · refine ⟨Z2 (by (try refine fun (_ : _ = _) => ?_); (try have hq := rngs a1 b1 b2 b3 b4); (try simp only [decide_eq_true_eq, decide_eq_false_iff_not, Bool.not_eq_false'] at *); first | omega | (constructor <;> omega)) (Z9), ?_⟩
             refine ⟨fun h6 => ?_, fun h6 => ?_⟩
             · have hF : Zc a1 b1 b2 b3 b4 = ((kRC7), b1, b2, b3, b4) := by first | exact (Z3 h0 (Z3 h1 (Z12 h2 (Z12 h3 (Z3 h4 (Z3 h5 (Z12 h6 rfl))))))) | simp only [Zc, h0, h1, h2, h3, h4, h5, h6, cond_true, cond_false]
               exact ⟨_, ((((Turn.moveC 0 0 1 6 rfl rfl rfl (by simp [hset, oM, oV])).trans (Turn.moveC 0 1 2 7 rfl rfl rfl (by simp [hset, oM, oV]))).trans (Turn.moveC 0 2 3 8 rfl rfl rfl (by simp [hset, oM, oV]))).trans (Turn.moveC 0 3 4 9 rfl rfl rfl (by simp [hset, oM, oV]))).trans (Turn.fits (p := ⟨Za 201 [(4, .ptr 9 0)], (.cells 111 [.vec 5, .vec 6, .vec 7, .vec 8] :: .dead :: .dead :: .dead :: .dead :: oV b1 b2 b3 b4 [.cells 52 [.int .i64 ((kRC7).err), .int .i64 ((kRC7).size), .str ((kRC7).zone), .int .u64 ((kRC7).tag)]])⟩) [0, 1, 2, 3, 4, 6, 7, 8, 9, 5] (by kernel_rfl) (by kernel_rfl) (by kernel_rfl) (by kernel_rfl)), trivial, .inl (by (try rw [hF]); kernel_rfl), by (try rw [hF]); kernel_rfl⟩
             · refine ⟨(by (iterate 2 refine Z2 (by (try refine fun (_ : _ = _) => ?_); (try have hq := rngs a1 b1 b2 b3 b4); (try simp only [decide_eq_true_eq, decide_eq_false_iff_not, Bool.not_eq_false'] at *); first | omega | (constructor <;> omega)) ?_); exact Z9), ?_⟩
               refine ⟨fun h7 => ?_, fun h7 => ?_⟩
               · refine ⟨Z2 (by (try refine fun (_ : _ = _) => ?_); (try have h80 := Zd2 a1 b1 b2 b3 b4 b2 false []); (try have h81 := Zb9 a1 b1 b2 b3 b4 b2 false []); (try have h82 := Zb8 a1 b2 false []); (try simp only [List.length_nil] at *); unfold Z18 maxLen; (try simp only [List.length_append, List.length_cons, List.length_nil, List.length_drop, List.length_take]); omega) (Z9), ?_⟩
                 have hF : Zc a1 b1 b2 b3 b4 = ((⟨(0 : Int), a1.size, a1.zone, (kRC1 b3 a1 b1 b2 b4)⟩ : XRes), (kRC0 b1 a1 b2 b3 b4), (((Z36 a1 b1 b2 b3 b4 b2 false []).2) ++ [(kRC5 a1 b3 b1 b2 b4)]), b3, b4) := by first | exact (Z3 h0 (Z3 h1 (Z12 h2 (Z12 h3 (Z3 h4 (Z3 h5 (Z3 h6 (Z12 h7 rfl)))))))) | simp only [Zc, h0, h1, h2, h3, h4, h5, h6, h7, cond_true, cond_false]
                 exact ⟨_, ((((Turn.moveC 0 0 1 7 rfl rfl rfl (by simp [hset, oM, oV])).trans (Turn.moveC 0 1 6 8 rfl rfl rfl (by simp [hset, oM, oV]))).trans (Turn.moveC 0 2 3 9 rfl rfl rfl (by simp [hset, oM, oV]))).trans (Turn.moveC 0 3 4 10 rfl rfl rfl (by simp [hset, oM, oV]))).trans (Turn.fits (p := ⟨Za 201 [(4, .ptr 9 0)], (.cells 111 [.vec 5, .vec 6, .vec 7, .vec 8] :: .dead :: .dead :: .dead :: .dead :: oV (kRC0 b1 a1 b2 b3 b4) (((Z36 a1 b1 b2 b3 b4 b2 false []).2) ++ [(kRC5 a1 b3 b1 b2 b4)]) b3 b4 [.cells 52 [.int .i64 0, .int .i64 a1.size, .str a1.zone, .int .u64 (kRC1 b3 a1 b1 b2 b4)]])⟩) [0, 1, 2, 3, 4, 7, 8, 9, 10, 5] (by kernel_rfl) (by kernel_rfl) (by kernel_rfl) (by kernel_rfl)), trivial, .inl (by (try rw [hF]); kernel_rfl), by (try rw [hF]); kernel_rfl⟩
               · have hF : Zc a1 b1 b2 b3 b4 = ((⟨(0 : Int), a1.size, a1.zone, (kRC1 b3 a1 b1 b2 b4)⟩ : XRes), (kRC0 b1 a1 b2 b3 b4), (Z36 a1 b1 b2 b3 b4 b2 false []).2, b3, b4) := by first | exact (Z3 h0 (Z3 h1 (Z12 h2 (Z12 h3 (Z3 h4 (Z3 h5 (Z3 h6 (Z3 h7 rfl)))))))) | simp only [Zc, h0, h1, h2, h3, h4, h5, h6, h7, cond_true, cond_false]
                 exact ⟨_, ((((Turn.moveC 0 0 1 7 rfl rfl rfl (by simp [hset, oM, oV])).trans (Turn.moveC 0 1 6 8 rfl rfl rfl (by simp [hset, oM, oV]))).trans (Turn.moveC 0 2 3 9 rfl rfl rfl (by simp [hset, oM, oV]))).trans (Turn.moveC 0 3 4 10 rfl rfl rfl (by simp [hset, oM, oV]))).trans (Turn.fits (p := ⟨Za 201 [(4, .ptr 9 0)], (.cells 111 [.vec 5, .vec 6, .vec 7, .vec 8] :: .dead :: .dead :: .dead :: .dead :: oV (kRC0 b1 a1 b2 b3 b4) ((Z36 a1 b1 b2 b3 b4 b2 false []).2) b3 b4 [.cells 52 [.int .i64 0, .int .i64 a1.size, .str a1.zone, .int .u64 (kRC1 b3 a1 b1 b2 b4)]])⟩) [0, 1, 2, 3, 4, 7, 8, 9, 10, 5] (by kernel_rfl) (by kernel_rfl) (by kernel_rfl) (by kernel_rfl)), trivial, .inl (by (try rw [hF]); kernel_rfl), by (try rw [hF]); kernel_rfl⟩
       · refine ⟨fun h4 => ?_, fun h4 => ?_⟩
         · refine ⟨(by (iterate 2 refine Z2 (by (try refine fun (_ : _ = _) => ?_); (try have hq := rngs a1 b1 b2 b3 b4); (try simp only [decide_eq_true_eq, decide_eq_false_iff_not, Bool.not_eq_false'] at *); first | omega | (constructor <;> omega)) ?_); exact Z9), ?_⟩
           refine ⟨fun h5 => ?_, fun h5 => ?_⟩
           · have hF : Zc a1 b1 b2 b3 b4 = ((kRC3), b1, b2, b3, b4) := by first | exact (Z3 h0 (Z3 h1 (Z12 h2 (Z3 h3 (Z12 h4 (Z12 h5 rfl)))))) | simp only [Zc, h0, h1, h2, h3, h4, h5, cond_true, cond_false]
             exact ⟨_, ((((Turn.moveC 0 0 1 6 rfl rfl rfl (by simp [hset, oM, oV])).trans (Turn.moveC 0 1 2 7 rfl rfl rfl (by simp [hset, oM, oV]))).trans (Turn.moveC 0 2 3 8 rfl rfl rfl (by simp [hset, oM, oV]))).trans (Turn.moveC 0 3 4 9 rfl rfl rfl (by simp [hset, oM, oV]))).trans (Turn.fits (p := ⟨Za 201 [(4, .ptr 9 0)], (.cells 111 [.vec 5, .vec 6, .vec 7, .vec 8] :: .dead :: .dead :: .dead :: .dead :: oV b1 b2 b3 b4 [.cells 52 [.int .i64 ((kRC3).err), .int .i64 ((kRC3).size), .str ((kRC3).zone), .int .u64 ((kRC3).tag)]])⟩) [0, 1, 2, 3, 4, 6, 7, 8, 9, 5] (by kernel_rfl) (by kernel_rfl) (by kernel_rfl) (by kernel_rfl)), trivial, .inl (by (try rw [hF]); kernel_rfl), by (try rw [hF]); kernel_rfl⟩
           · refine ⟨fun h6 => ?_, fun h6 => ?_⟩
             · have hF : Zc a1 b1 b2 b3 b4 = ((Z8 (7 : Int)), b1, b2, b3, b4) := by first | exact (Z3 h0 (Z3 h1 (Z12 h2 (Z3 h3 (Z12 h4 (Z3 h5 (Z12 h6 rfl))))))) | simp only [Zc, h0, h1, h2, h3, h4, h5, h6, cond_true, cond_false]
               exact ⟨_, ((((Turn.moveC 0 0 1 6 rfl rfl rfl (by simp [hset, oM, oV])).trans (Turn.moveC 0 1 2 7 rfl rfl rfl (by simp [hset, oM, oV]))).trans (Turn.moveC 0 2 3 8 rfl rfl rfl (by simp [hset, oM, oV]))).trans (Turn.moveC 0 3 4 9 rfl rfl rfl (by simp [hset, oM, oV]))).trans (Turn.fits (p := ⟨Za 201 [(4, .ptr 9 0)], (.cells 111 [.vec 5, .vec 6, .vec 7, .vec 8] :: .dead :: .dead :: .dead :: .dead :: oV b1 b2 b3 b4 [.cells 52 [.int .i64 ((Z8 (7 : Int)).err), .int .i64 ((Z8 (7 : Int)).size), .str ((Z8 (7 : Int)).zone), .int .u64 ((Z8 (7 : Int)).tag)]])⟩) [0, 1, 2, 3, 4, 6, 7, 8, 9, 5] (by kernel_rfl) (by kernel_rfl) (by kernel_rfl) (by kernel_rfl)), trivial, .inl (by (try rw [hF]); kernel_rfl), by (try rw [hF]); kernel_rfl⟩
             · refine ⟨Z2 (by (try refine fun (_ : _ = _) => ?_); (try have hq := rngs a1 b1 b2 b3 b4); (try simp only [decide_eq_true_eq, decide_eq_false_iff_not, Bool.not_eq_false'] at *); first | omega | (constructor <;> omega)) (Z9), ?_⟩
               refine ⟨fun h7 => ?_, fun h7 => ?_⟩
               · have hF : Zc a1 b1 b2 b3 b4 = ((kRC7), b1, b2, b3, b4) := by first | exact (Z3 h0 (Z3 h1 (Z12 h2 (Z3 h3 (Z12 h4 (Z3 h5 (Z3 h6 (Z12 h7 rfl)))))))) | simp only [Zc, h0, h1, h2, h3, h4, h5, h6, h7, cond_true, cond_false]
                 exact ⟨_, ((((Turn.moveC 0 0 1 6 rfl rfl rfl (by simp [hset, oM, oV])).trans (Turn.moveC 0 1 2 7 rfl rfl rfl (by simp [hset, oM, oV]))).trans (Turn.moveC 0 2 3 8 rfl rfl rfl (by simp [hset, oM, oV]))).trans (Turn.moveC 0 3 4 9 rfl rfl rfl (by simp [hset, oM, oV]))).trans (Turn.fits (p := ⟨Za 201 [(4, .ptr 9 0)], (.cells 111 [.vec 5, .vec 6, .vec 7, .vec 8] :: .dead :: .dead :: .dead :: .dead :: oV b1 b2 b3 b4 [.cells 52 [.int .i64 ((kRC7).err), .int .i64 ((kRC7).size), .str ((kRC7).zone), .int .u64 ((kRC7).tag)]])⟩) [0, 1, 2, 3, 4, 6, 7, 8, 9, 5] (by kernel_rfl) (by kernel_rfl) (by kernel_rfl) (by kernel_rfl)), trivial, .inl (by (try rw [hF]); kernel_rfl), by (try rw [hF]); kernel_rfl⟩
               · refine ⟨(by (iterate 2 refine Z2 (by (try refine fun (_ : _ = _) => ?_); (try have hq := rngs a1 b1 b2 b3 b4); (try simp only [decide_eq_true_eq, decide_eq_false_iff_not, Bool.not_eq_false'] at *); first | omega | (constructor <;> omega)) ?_); exact Z9), ?_⟩
                 refine ⟨fun h8 => ?_, fun h8 => ?_⟩
                 · refine ⟨Z2 (by (try refine fun (_ : _ = _) => ?_); (try have h80 := Zd2 a1 b1 b2 b3 b4 b2 false []); (try have h81 := Zb9 a1 b1 b2 b3 b4 b2 false []); (try have h82 := Zb8 a1 b2 false []); (try simp only [List.length_nil] at *); unfold Z18 maxLen; (try simp only [List.length_append, List.length_cons, List.length_nil, List.length_drop, List.length_take]); omega) (Z9), ?_⟩
                   have hF : Zc a1 b1 b2 b3 b4 = ((⟨(0 : Int), a1.size, a1.zone, (kRC2 b2 a1 b1 b3 b4)⟩ : XRes), (kRC0 b1 a1 b2 b3 b4), (((Z31 a1 b1 b2 b3 b4 b2 false []).2) ++ [(kRC6 a1 b2 b1 b3 b4)]), b3, b4) := by first | exact (Z3 h0 (Z3 h1 (Z12 h2 (Z3 h3 (Z12 h4 (Z3 h5 (Z3 h6 (Z3 h7 (Z12 h8 rfl))))))))) | simp only [Zc, h0, h1, h2, h3, h4, h5, h6, h7, h8, cond_true, cond_false]
                   exact ⟨_, ((((Turn.moveC 0 0 1 7 rfl rfl rfl (by simp [hset, oM, oV])).trans (Turn.moveC 0 1 6 8 rfl rfl rfl (by simp [hset, oM, oV]))).trans (Turn.moveC 0 2 3 9 rfl rfl rfl (by simp [hset, oM, oV]))).trans (Turn.moveC 0 3 4 10 rfl rfl rfl (by simp [hset, oM, oV]))).trans (Turn.fits (p := ⟨Za 201 [(4, .ptr 9 0)], (.cells 111 [.vec 5, .vec 6, .vec 7, .vec 8] :: .dead :: .dead :: .dead :: .dead :: oV (kRC0 b1 a1 b2 b3 b4) (((Z31 a1 b1 b2 b3 b4 b2 false []).2) ++ [(kRC6 a1 b2 b1 b3 b4)]) b3 b4 [.cells 52 [.int .i64 0, .int .i64 a1.size, .str a1.zone, .int .u64 (kRC2 b2 a1 b1 b3 b4)]])⟩) [0, 1, 2, 3, 4, 7, 8, 9, 10, 5] (by kernel_rfl) (by kernel_rfl) (by kernel_rfl) (by kernel_rfl)), trivial, .inl (by (try rw [hF]); kernel_rfl), by (try rw [hF]); kernel_rfl⟩
                 · have hF : Zc a1 b1 b2 b3 b4 = ((⟨(0 : Int), a1.size, a1.zone, (kRC2 b2 a1 b1 b3 b4)⟩ : XRes), (kRC0 b1 a1 b2 b3 b4), (Z31 a1 b1 b2 b3 b4 b2 false []).2, b3, b4) := by first | exact (Z3 h0 (Z3 h1 (Z12 h2 (Z3 h3 (Z12 h4 (Z3 h5 (Z3 h6 (Z3 h7 (Z3 h8 rfl))))))))) | simp only [Zc, h0, h1, h2, h3, h4, h5, h6, h7, h8, cond_true, cond_false]
                   exact ⟨_, ((((Turn.moveC 0 0 1 7 rfl rfl rfl (by simp [hset, oM, oV])).trans (Turn.moveC 0 1 6 8 rfl rfl rfl (by simp [hset, oM, oV]))).trans (Turn.moveC 0 2 3 9 rfl rfl rfl (by simp [hset, oM, oV]))).trans (Turn.moveC 0 3 4 10 rfl rfl rfl (by simp [hset, oM, oV]))).trans (Turn.fits (p := ⟨Za 201 [(4, .ptr 9 0)], (.cells 111 [.vec 5, .vec 6, .vec 7, .vec 8] :: .dead :: .dead :: .dead :: .dead :: oV (kRC0 b1 a1 b2 b3 b4) ((Z31 a1 b1 b2 b3 b4 b2 false []).2) b3 b4 [.cells 52 [.int .i64 0, .int .i64 a1.size, .str a1.zone, .int .u64 (kRC2 b2 a1 b1 b3 b4)]])⟩) [0, 1, 2, 3, 4, 7, 8, 9, 10, 5] (by kernel_rfl) (by kernel_rfl) (by kernel_rfl) (by kernel_rfl)), trivial, .inl (by (try rw [hF]); kernel_rfl), by (try rw [hF]); kernel_rfl⟩
         · have hF : Zc a1 b1 b2 b3 b4 = ((Z8 (5 : Int)), b1, b2, b3, b4) := by first | exact (Z3 h0 (Z3 h1 (Z12 h2 (Z3 h3 (Z3 h4 rfl))))) | simp only [Zc, h0, h1, h2, h3, h4, cond_true, cond_false]
           exact ⟨_, ((((Turn.moveC 0 0 1 6 rfl rfl rfl (by simp [hset, oM, oV])).trans (Turn.moveC 0 1 2 7 rfl rfl rfl (by simp [hset, oM, oV]))).trans (Turn.moveC 0 2 3 8 rfl rfl rfl (by simp [hset, oM, oV]))).trans (Turn.moveC 0 3 4 9 rfl rfl rfl (by simp [hset, oM, oV]))).trans (Turn.fits (p := ⟨Za 201 [(4, .ptr 9 0)], (.cells 111 [.vec 5, .vec 6, .vec 7, .vec 8] :: .dead :: .dead :: .dead :: .dead :: oV b1 b2 b3 b4 [.cells 52 [.int .i64 ((Z8 (5 : Int)).err), .int .i64 ((Z8 (5 : Int)).size), .str ((Z8 (5 : Int)).zone), .int .u64 ((Z8 (5 : Int)).tag)]])⟩) [0, 1, 2, 3, 4, 6, 7, 8, 9, 5] (by kernel_rfl) (by kernel_rfl) (by kernel_rfl) (by kernel_rfl)), trivial, .inl (by (try rw [hF]); kernel_rfl), by (try rw [hF]); kernel_rfl⟩
     · refine ⟨fun h3 => ?_, fun h3 => ?_⟩
       · have hF : Zc a1 b1 b2 b3 b4 = ((kRC3), b1, b2, b3, b4) := by first | exact (Z3 h0 (Z3 h1 (Z3 h2 (Z12 h3 rfl)))) | simp only [Zc, h0, h1, h2, h3, cond_true, cond_false]
         exact ⟨_, ((((Turn.moveC 0 0 1 6 rfl rfl rfl (by simp [hset, oM, oV])).trans (Turn.moveC 0 1 2 7 rfl rfl rfl (by simp [hset, oM, oV]))).trans (Turn.moveC 0 2 3 8 rfl rfl rfl (by simp [hset, oM, oV]))).trans (Turn.moveC 0 3 4 9 rfl rfl rfl (by simp [hset, oM, oV]))).trans (Turn.fits (p := ⟨Za 201 [(4, .ptr 9 0)], (.cells 111 [.vec 5, .vec 6, .vec 7, .vec 8] :: .dead :: .dead :: .dead :: .dead :: oV b1 b2 b3 b4 [.cells 52 [.int .i64 ((kRC3).err), .int .i64 ((kRC3).size), .str ((kRC3).zone), .int .u64 ((kRC3).tag)]])⟩) [0, 1, 2, 3, 4, 6, 7, 8, 9, 5] (by kernel_rfl) (by kernel_rfl) (by kernel_rfl) (by kernel_rfl)), trivial, .inl (by (try rw [hF]); kernel_rfl), by (try rw [hF]); kernel_rfl⟩
       · refine ⟨fun h4 => ?_, fun h4 => ?_⟩
         · have hF : Zc a1 b1 b2 b3 b4 = ((Z8 (7 : Int)), b1, b2, b3, b4) := by first | exact (Z3 h0 (Z3 h1 (Z3 h2 (Z3 h3 (Z12 h4 rfl))))) | simp only [Zc, h0, h1, h2, h3, h4, cond_true, cond_false]
           exact ⟨_, ((((Turn.moveC 0 0 1 6 rfl rfl rfl (by simp [hset, oM, oV])).trans (Turn.moveC 0 1 2 7 rfl rfl rfl (by simp [hset, oM, oV]))).trans (Turn.moveC 0 2 3 8 rfl rfl rfl (by simp [hset, oM, oV]))).trans (Turn.moveC 0 3 4 9 rfl rfl rfl (by simp [hset, oM, oV]))).trans (Turn.fits (p := ⟨Za 201 [(4, .ptr 9 0)], (.cells 111 [.vec 5, .vec 6, .vec 7, .vec 8] :: .dead :: .dead :: .dead :: .dead :: oV b1 b2 b3 b4 [.cells 52 [.int .i64 ((Z8 (7 : Int)).err), .int .i64 ((Z8 (7 : Int)).size), .str ((Z8 (7 : Int)).zone), .int .u64 ((Z8 (7 : Int)).tag)]])⟩) [0, 1, 2, 3, 4, 6, 7, 8, 9, 5] (by kernel_rfl) (by kernel_rfl) (by kernel_rfl) (by kernel_rfl)), trivial, .inl (by (try rw [hF]); kernel_rfl), by (try rw [hF]); kernel_rfl⟩
         · refine ⟨Z2 (by (try refine fun (_ : _ = _) => ?_); (try have hq := rngs a1 b1 b2 b3 b4); (try simp only [decide_eq_true_eq, decide_eq_false_iff_not, Bool.not_eq_false'] at *); first | omega | (constructor <;> omega)) (Z9), ?_⟩
           refine ⟨fun h5 => ?_, fun h5 => ?_⟩
           · have hF : Zc a1 b1 b2 b3 b4 = ((kRC7), b1, b2, b3, b4) := by first | exact (Z3 h0 (Z3 h1 (Z3 h2 (Z3 h3 (Z3 h4 (Z12 h5 rfl)))))) | simp only [Zc, h0, h1, h2, h3, h4, h5, cond_true, cond_false]
             exact ⟨_, ((((Turn.moveC 0 0 1 6 rfl rfl rfl (by simp [hset, oM, oV])).trans (Turn.moveC 0 1 2 7 rfl rfl rfl (by simp [hset, oM, oV]))).trans (Turn.moveC 0 2 3 8 rfl rfl rfl (by simp [hset, oM, oV]))).trans (Turn.moveC 0 3 4 9 rfl rfl rfl (by simp [hset, oM, oV]))).trans (Turn.fits (p := ⟨Za 201 [(4, .ptr 9 0)], (.cells 111 [.vec 5, .vec 6, .vec 7, .vec 8] :: .dead :: .dead :: .dead :: .dead :: oV b1 b2 b3 b4 [.cells 52 [.int .i64 ((kRC7).err), .int .i64 ((kRC7).size), .str ((kRC7).zone), .int .u64 ((kRC7).tag)]])⟩) [0, 1, 2, 3, 4, 6, 7, 8, 9, 5] (by kernel_rfl) (by kernel_rfl) (by kernel_rfl) (by kernel_rfl)), trivial, .inl (by (try rw [hF]); kernel_rfl), by (try rw [hF]); kernel_rfl⟩
           · refine ⟨(by (iterate 2 refine Z2 (by (try refine fun (_ : _ = _) => ?_); (try have hq := rngs a1 b1 b2 b3 b4); (try simp only [decide_eq_true_eq, decide_eq_false_iff_not, Bool.not_eq_false'] at *); first | omega | (constructor <;> omega)) ?_); exact Z9), ?_⟩
             refine ⟨fun h6 => ?_, fun h6 => ?_⟩
             · refine ⟨Z2 (by (try refine fun (_ : _ = _) => ?_); (try have h80 := Zd2 a1 b1 b2 b3 b4 b2 false []); (try have h81 := Zb9 a1 b1 b2 b3 b4 b2 false []); (try have h82 := Zb8 a1 b2 false []); (try simp only [List.length_nil] at *); unfold Z18 maxLen; (try simp only [List.length_append, List.length_cons, List.length_nil, List.length_drop, List.length_take]); omega) (Z9), ?_⟩
               have hF : Zc a1 b1 b2 b3 b4 = ((⟨(0 : Int), a1.size, a1.zone, (0 : Int)⟩ : XRes), (kRC0 b1 a1 b2 b3 b4), (((Z30 a1 b2 false []).2) ++ [(kRC4 a1)]), b3, b4) := by first | exact (Z3 h0 (Z3 h1 (Z3 h2 (Z3 h3 (Z3 h4 (Z3 h5 (Z12 h6 rfl))))))) | simp only [Zc, h0, h1, h2, h3, h4, h5, h6, cond_true, cond_false]
               exact ⟨_, ((((Turn.moveC 0 0 1 7 rfl rfl rfl (by simp [hset, oM, oV])).trans (Turn.moveC 0 1 6 8 rfl rfl rfl (by simp [hset, oM, oV]))).trans (Turn.moveC 0 2 3 9 rfl rfl rfl (by simp [hset, oM, oV]))).trans (Turn.moveC 0 3 4 10 rfl rfl rfl (by simp [hset, oM, oV]))).trans (Turn.fits (p := ⟨Za 201 [(4, .ptr 9 0)], (.cells 111 [.vec 5, .vec 6, .vec 7, .vec 8] :: .dead :: .dead :: .dead :: .dead :: oV (kRC0 b1 a1 b2 b3 b4) (((Z30 a1 b2 false []).2) ++ [(kRC4 a1)]) b3 b4 [.cells 52 [.int .i64 0, .int .i64 a1.size, .str a1.zone, .int .u64 (0 : Int)]])⟩) [0, 1, 2, 3, 4, 7, 8, 9, 10, 5] (by kernel_rfl) (by kernel_rfl) (by kernel_rfl) (by kernel_rfl)), trivial, .inl (by (try rw [hF]); kernel_rfl), by (try rw [hF]); kernel_rfl⟩
             · have hF : Zc a1 b1 b2 b3 b4 = ((⟨(0 : Int), a1.size, a1.zone, (0 : Int)⟩ : XRes), (kRC0 b1 a1 b2 b3 b4), (Z30 a1 b2 false []).2, b3, b4) := by first | exact (Z3 h0 (Z3 h1 (Z3 h2 (Z3 h3 (Z3 h4 (Z3 h5 (Z3 h6 rfl))))))) | simp only [Zc, h0, h1, h2, h3, h4, h5, h6, cond_true, cond_false]
               exact ⟨_, ((((Turn.moveC 0 0 1 7 rfl rfl rfl (by simp [hset, oM, oV])).trans (Turn.moveC 0 1 6 8 rfl rfl rfl (by simp [hset, oM, oV]))).trans (Turn.moveC 0 2 3 9 rfl rfl rfl (by simp [hset, oM, oV]))).trans (Turn.moveC 0 3 4 10 rfl rfl rfl (by simp [hset, oM, oV]))).trans (Turn.fits (p := ⟨Za 201 [(4, .ptr 9 0)], (.cells 111 [.vec 5, .vec 6, .vec 7, .vec 8] :: .dead :: .dead :: .dead :: .dead :: oV (kRC0 b1 a1 b2 b3 b4) ((Z30 a1 b2 false []).2) b3 b4 [.cells 52 [.int .i64 0, .int .i64 a1.size, .str a1.zone, .int .u64 (0 : Int)]])⟩) [0, 1, 2, 3, 4, 7, 8, 9, 10, 5] (by kernel_rfl) (by kernel_rfl) (by kernel_rfl) (by kernel_rfl)), trivial, .inl (by (try rw [hF]); kernel_rfl), by (try rw [hF]); kernel_rfl⟩
noncomputable def rD_create_fact : Fact Tryz.prog := Z4b 83 Tryz.f83 (by kernel_rfl) rfl (by kernel_rfl) [.c (.ptr 0 0), .st .call] [.cells 111 [.vec 1, .vec 2, .vec 3, .vec 4], .vec false .zone, .vec false .vol, .vec false .snap, .vec false .done] false (fun t u => .agg [.int .i64 (((Zc t.2.1 u.2.1 u.2.2.1 u.2.2.2.1 u.2.2.2.2.1).1).err), .int .i64 (((Zc t.2.1 u.2.1 u.2.2.1 u.2.2.2.1 u.2.2.2.2.1).1).size), .str (((Zc t.2.1 u.2.1 u.2.2.1 u.2.2.2.1 u.2.2.2.2.1).1).zone), .int .u64 (((Zc t.2.1 u.2.1 u.2.2.1 u.2.2.2.1 u.2.2.2.2.1).1).tag)]) (fun t u => (.cells 111 [.vec 5, .vec 6, .vec 7, .vec 8] :: .dead :: .dead :: .dead :: .dead :: oV ((Zc t.2.1 u.2.1 u.2.2.1 u.2.2.2.1 u.2.2.2.2.1).2.1) ((Zc t.2.1 u.2.1 u.2.2.1 u.2.2.2.1 u.2.2.2.2.1).2.2.1) ((Zc t.2.1 u.2.1 u.2.2.1 u.2.2.2.1 u.2.2.2.2.1).2.2.2.1) ((Zc t.2.1 u.2.1 u.2.2.1 u.2.2.2.1 u.2.2.2.2.1).2.2.2.2) [])) (fun t u => [u.2.1.length ≤ 1000, u.2.2.1.length ≤ 1000, u.2.2.2.1.length ≤ 1000, u.2.2.2.2.1.length ≤ 1000, ∀ v ∈ u.2.2.1, v.nodes.length ≤ 1000, ∀ v ∈ u.2.2.1, ZHas u.2.1 v.zone])
 (nofun) (fun t u => by kernel_rfl) (fun t u => by kernel_rfl) (fun t u h => rD_createF_tr t.2.1 u.2.1 u.2.2.1 u.2.2.2.1 u.2.2.2.2.1 (h _ mS) (h _ (mN mS)) (h _ (mN (mN mS))) (h _ (mN (mN (mN mS)))) (h _ (mN (mN (mN (mN mS))))) (h _ (mN (mN (mN (mN (mN mS)))))))
end Go.Proofs.YtkledlcmhbjadaaGreat
