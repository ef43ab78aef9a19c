/- The document's driver: making. -/
import Derived.Test.YtpffbkbadnhmmaaDRExp
set_option linter.unusedVariables false
set_option linter.unusedSimpArgs false
set_option maxRecDepth 100000
namespace Go.Proofs.Ytpffbkbadnhmmaa
open Go Go.Eng
noncomputable def E_rD_create : Env := envOf (P := Try.prog) [Zd3, Z92, Zb5, Zfb] [] [] ckf true
def Z2c (a1 : XCall) (b1 : LZ) (b2 : LV) (b3 : LS) (b4 : LQ) : LV → Bool → LV → Bool × LV
 | [], v1, v13 => (v1, v13)
 | o :: r, v1, v13 => cond (cond (!v1) (strLess a1.target (o.name)) false)
  (Z2c a1 b1 b2 b3 b4 r true ((v13 ++ [(⟨a1.target, a1.size, a1.zone, ((b3.getD ((Z24 a1.source b1 b2 b3 b4).toNat) default).tag), []⟩ : XVol)]) ++ [o]))
  (Z2c a1 b1 b2 b3 b4 r v1 (v13 ++ [o]))
abbrev kRC0 (b1 : LZ) (a1 : XCall) (b2 : LV) (b3 : LS) (b4 : LQ) := (b1.set ((Z17 a1.zone b1 b2 b3 b4).toNat) (⟨(b1.getD ((Z17 a1.zone b1 b2 b3 b4).toNat) default).name, (IntKind.i64.wrap (((b1.getD ((Z17 a1.zone b1 b2 b3 b4).toNat) default).room) - a1.size))⟩ : XZone))
abbrev kRC1 (b3 : LS) (a1 : XCall) (b1 : LZ) (b2 : LV) (b4 : LQ) := ((b3.getD ((Z24 a1.source b1 b2 b3 b4).toNat) default).tag)
def Z89 (a1 : XCall) (b1 : LZ) (b2 : LV) (b3 : LS) (b4 : LQ) (v1 : Bool) (i : Nat) (v13 : LV) : St :=
 ⟨slots 201 [(0, .ptr 0 0), (3, .ptr 5 0), (4, .ptr 6 0), (8, .int .u64 (kRC1 b3 a1 b1 b2 b4)), (12, .ptr 7 0), (13, .vec 8), (14, .bool v1), (15, .int .i64 (i : Int))], (.cells 106 [.vec 1, .vec 2, .vec 3, .vec 4] :: oV (kRC0 b1 a1 b2 b3 b4) b2 b3 b4 [.cells 49 (cc a1), .cells 52 [.int .i64 0, .int .i64 0, .str (⟨#[]⟩ : BA), .int .u64 0], .cells 45 [.str a1.target, .int .i64 a1.size, .str a1.zone, .int .u64 (kRC1 b3 a1 b1 b2 b4), .nils], .vec false ⟨.vol, v13⟩])⟩
abbrev kRC5 (a1 : XCall) (b3 : LS) (b1 : LZ) (b2 : LV) (b4 : LQ) := (⟨a1.target, a1.size, a1.zone, (kRC1 b3 a1 b1 b2 b4), []⟩ : XVol)
def Z123 (a1 : XCall) (b1 : LZ) (b2 : LV) (b3 : LS) (b4 : LQ) (v1 : Bool) (i : Nat) (v13 : LV) : RT :=
 (.ask (decide ((i : Int) < (b2.length : Int)))
   (.need [((!v1) = true) → (0 ≤ (i : Int) ∧ (i : Int) < (b2.length : Int))]
     (.ask (cond (!v1) (strLess a1.target ((b2.getD i default).name)) false)
       (.need [(v13.length + [(kRC5 a1 b3 b1 b2 b4)].length) * 72 ≤ bytesLim ∧ v13.length + [(kRC5 a1 b3 b1 b2 b4)].length ≤ maxLen]
         (.need [0 ≤ (i : Int) ∧ (i : Int) < (b2.length : Int)]
           (.need [((v13 ++ [(kRC5 a1 b3 b1 b2 b4)]).length + [(b2.getD i default)].length) * 72 ≤ bytesLim ∧ (v13 ++ [(kRC5 a1 b3 b1 b2 b4)]).length + [(b2.getD i default)].length ≤ maxLen]
             (.leaf .normal ⟨slots 201 [(0, .ptr 0 0), (3, .ptr 5 0), (4, .ptr 6 0), (8, .int .u64 (kRC1 b3 a1 b1 b2 b4)), (12, .ptr 7 0), (13, .vec 8), (14, .bool true), (15, .int .i64 (IntKind.i64.wrap ((i : Int) + (1 : Int))))], (.cells 106 [.vec 1, .vec 2, .vec 3, .vec 4] :: oV (kRC0 b1 a1 b2 b3 b4) b2 b3 b4 [.cells 49 (cc a1), .cells 52 [.int .i64 0, .int .i64 0, .str (⟨#[]⟩ : BA), .int .u64 0], .cells 45 [.str a1.target, .int .i64 a1.size, .str a1.zone, .int .u64 (kRC1 b3 a1 b1 b2 b4), .nils], .vec false ⟨.vol, ((v13 ++ [(kRC5 a1 b3 b1 b2 b4)]) ++ [(b2.getD i default)])⟩])⟩ [0, 1, 2, 3, 4, 5, 6, 7, 12]))))
       (.need [0 ≤ (i : Int) ∧ (i : Int) < (b2.length : Int)]
         (.need [(v13.length + [(b2.getD i default)].length) * 72 ≤ bytesLim ∧ v13.length + [(b2.getD i default)].length ≤ maxLen]
           (.leaf .normal ⟨slots 201 [(0, .ptr 0 0), (3, .ptr 5 0), (4, .ptr 6 0), (8, .int .u64 (kRC1 b3 a1 b1 b2 b4)), (12, .ptr 7 0), (13, .vec 8), (14, .bool v1), (15, .int .i64 (IntKind.i64.wrap ((i : Int) + (1 : Int))))], (.cells 106 [.vec 1, .vec 2, .vec 3, .vec 4] :: oV (kRC0 b1 a1 b2 b3 b4) b2 b3 b4 [.cells 49 (cc a1), .cells 52 [.int .i64 0, .int .i64 0, .str (⟨#[]⟩ : BA), .int .u64 0], .cells 45 [.str a1.target, .int .i64 a1.size, .str a1.zone, .int .u64 (kRC1 b3 a1 b1 b2 b4), .nils], .vec false ⟨.vol, (v13 ++ [(b2.getD i default)])⟩])⟩ [0, 1, 2, 3, 4, 5, 6, 7, 10])))))
   (.leaf (.exit 2) ⟨slots 201 [(0, .ptr 0 0), (3, .ptr 5 0), (4, .ptr 6 0), (8, .int .u64 (kRC1 b3 a1 b1 b2 b4)), (12, .ptr 7 0), (13, .vec 8), (14, .bool v1)], (.cells 106 [.vec 1, .vec 2, .vec 3, .vec 4] :: oV (kRC0 b1 a1 b2 b3 b4) b2 b3 b4 [.cells 49 (cc a1), .cells 52 [.int .i64 0, .int .i64 0, .str (⟨#[]⟩ : BA), .int .u64 0], .cells 45 [.str a1.target, .int .i64 a1.size, .str a1.zone, .int .u64 (kRC1 b3 a1 b1 b2 b4), .nils], .vec false ⟨.vol, v13⟩])⟩ []))
def Z7a (a1 : XCall) (b1 : LZ) (b2 : LV) (b3 : LS) (b4 : LQ) (v1 : Bool) (i : Nat) (v13 : LV) : Tree :=
 .leaf (.exit 2) ⟨slots 201 [(0, .ptr 0 0), (3, .ptr 5 0), (4, .ptr 6 0), (8, .int .u64 (kRC1 b3 a1 b1 b2 b4)), (12, .ptr 7 0), (13, .vec 8), (14, .bool ((Z2c a1 b1 b2 b3 b4 (b2.drop i) v1 v13).1))], (.cells 106 [.vec 1, .vec 2, .vec 3, .vec 4] :: oV (kRC0 b1 a1 b2 b3 b4) b2 b3 b4 [.cells 49 (cc a1), .cells 52 [.int .i64 0, .int .i64 0, .str (⟨#[]⟩ : BA), .int .u64 0], .cells 45 [.str a1.target, .int .i64 a1.size, .str a1.zone, .int .u64 (kRC1 b3 a1 b1 b2 b4), .nils], .vec false ⟨.vol, (Z2c a1 b1 b2 b3 b4 (b2.drop i) v1 v13).2⟩])⟩
theorem rD_createL_loop (a1 : XCall) (b1 : LZ) (b2 : LV) (b3 : LS) (b4 : LQ) (hp0 : b1.length ≤ 1000) (hp1 : b2.length ≤ 1000) (hp2 : b3.length ≤ 1000) (hp3 : b4.length ≤ 1000) (hp4 : ∀ v ∈ b2, v.nodes.length ≤ 1000) (hp5 : ∀ v ∈ b2, ZHas b1 v.zone) (hlen : b2.length < 4611686018427387904) (z : { z : Bool × Nat × LV // z.2.1 ≤ b2.length ∧ z.2.2.length ≤ 2 * z.2.1 }) (Q : Exit → St → Prop) (h : (Z7a a1 b1 b2 b3 b4 z.1.1 z.1.2.1 z.1.2.2).All Q) : Tr Try.prog 5 (.loop (loopAt Try.f108 0)) (Z89 a1 b1 b2 b3 b4 z.1.1 z.1.2.1 z.1.2.2) Q := by
 refine Tr_loopT (kok _ _ _ _ _ _) (E := E_rD_create) (ι := { z : Bool × Nat × LV // z.2.1 ≤ b2.length ∧ z.2.2.length ≤ 2 * z.2.1 }) 60 2 (fun _ => noLoops) (fun z => Z89 a1 b1 b2 b3 b4 z.1.1 z.1.2.1 z.1.2.2) (fun z => Z7a a1 b1 b2 b3 b4 z.1.1 z.1.2.1 z.1.2.2) (fun z => Z123 a1 b1 b2 b3 b4 z.1.1 z.1.2.1 z.1.2.2) (fun z => b2.length - z.1.2.1) (fun _ => Z11.none) (fun z => by obtain ⟨⟨v1, i, v13⟩, hi⟩ := z; kernel_rfl) (fun z => by obtain ⟨⟨v1, i, v13⟩, hi⟩ := z; kernel_rfl) (fun z => by obtain ⟨⟨v1, i, v13⟩, hi⟩ := z; kernel_rfl) ?_ z Q h
 rintro ⟨⟨v1, i, v13⟩, hi⟩ Q hT
 replace hT : (Z7a a1 b1 b2 b3 b4 v1 i v13).All Q := hT
 replace hi : i ≤ b2.length ∧ v13.length ≤ 2 * i := hi
 show (Z123 a1 b1 b2 b3 b4 v1 i v13).All _
 unfold Z123
 refine ⟨fun h0 => ?_, fun h0 => ?_⟩
 · have hlt : i < b2.length := by simpa using h0
   have hd := drop_getD hlt
   have hw := wrap_succ (i := i) (by omega)
   refine ⟨Z5 (by (try refine fun (_ : _ = _) => ?_); (try refine fun (_ : _ ∧ _) => ?_); first | omega | (constructor <;> omega)) (Z9), ?_⟩
   refine ⟨fun h1 => ?_, fun h1 => ?_⟩
   · refine ⟨Z5 (by (try refine fun (_ : _ = _) => ?_); (try refine fun (_ : _ ∧ _) => ?_); unfold bytesLim maxLen; (try simp only [List.length_append, List.length_cons, List.length_nil, List.length_drop, List.length_take]); omega) (Z9), ?_⟩
     refine ⟨Z5 (by (try refine fun (_ : _ = _) => ?_); (try refine fun (_ : _ ∧ _) => ?_); first | omega | (constructor <;> omega)) (Z9), ?_⟩
     refine ⟨Z5 (by (try refine fun (_ : _ = _) => ?_); (try refine fun (_ : _ ∧ _) => ?_); unfold bytesLim maxLen; (try simp only [List.length_append, List.length_cons, List.length_nil, List.length_drop, List.length_take]); omega) (Z9), ?_⟩
     have hF : Z2c a1 b1 b2 b3 b4 (b2.drop i) v1 v13 = Z2c a1 b1 b2 b3 b4 (b2.drop (i + 1)) true ((v13 ++ [(kRC5 a1 b3 b1 b2 b4)]) ++ [(b2.getD i default)]) := by rw [hd]; first | exact (Z14 h1 rfl) | simp only [Z2c, h0, h1, cond_true, cond_false]
     refine ⟨⟨(true, (i + 1), ((v13 ++ [(kRC5 a1 b3 b1 b2 b4)]) ++ [(b2.getD i default)])), by (first | dsimp only | skip); constructor <;> (try simp only [List.length_append, List.length_cons, List.length_nil]) <;> omega⟩, by show b2.length - (i + 1) < b2.length - i; omega, ?_, ?_⟩
     · show _ = Z89 a1 b1 b2 b3 b4 true (i + 1) ((v13 ++ [(kRC5 a1 b3 b1 b2 b4)]) ++ [(b2.getD i default)])
       unfold Z89
       simp only [hw]
     · show (Z7a a1 b1 b2 b3 b4 true (i + 1) ((v13 ++ [(kRC5 a1 b3 b1 b2 b4)]) ++ [(b2.getD i default)])).All Q
       unfold Z7a at hT ⊢
       rw [hF] at hT
       exact hT
   · refine ⟨Z5 (by (try refine fun (_ : _ = _) => ?_); (try refine fun (_ : _ ∧ _) => ?_); first | omega | (constructor <;> omega)) (Z9), ?_⟩
     refine ⟨Z5 (by (try refine fun (_ : _ = _) => ?_); (try refine fun (_ : _ ∧ _) => ?_); unfold bytesLim maxLen; (try simp only [List.length_append, List.length_cons, List.length_nil, List.length_drop, List.length_take]); omega) (Z9), ?_⟩
     have hF : Z2c a1 b1 b2 b3 b4 (b2.drop i) v1 v13 = Z2c a1 b1 b2 b3 b4 (b2.drop (i + 1)) v1 (v13 ++ [(b2.getD i default)]) := by rw [hd]; first | exact (Z7 h1 rfl) | simp only [Z2c, h0, h1, cond_true, cond_false]
     refine ⟨⟨(v1, (i + 1), (v13 ++ [(b2.getD i default)])), by (first | dsimp only | skip); constructor <;> (try simp only [List.length_append, List.length_cons, List.length_nil]) <;> omega⟩, by show b2.length - (i + 1) < b2.length - i; omega, ?_, ?_⟩
     · show _ = Z89 a1 b1 b2 b3 b4 v1 (i + 1) (v13 ++ [(b2.getD i default)])
       unfold Z89
       simp only [hw]
     · show (Z7a a1 b1 b2 b3 b4 v1 (i + 1) (v13 ++ [(b2.getD i default)])).All Q
       unfold Z7a at hT ⊢
       rw [hF] at hT
       exact hT
 · have hge : ¬ i < b2.length := by simpa using h0
   have hd : b2.drop i = [] := List.drop_eq_nil_of_le (by omega)
   have hF : Z2c a1 b1 b2 b3 b4 (b2.drop i) v1 v13 = (v1, v13) := by rw [hd]; first | exact rfl | simp only [Z2c, h0, cond_true, cond_false]
   unfold Z7a at hT
   rw [hF] at hT
   exact hT
def Z2a (a1 : XCall) (b1 : LZ) (b2 : LV) (b3 : LS) (b4 : LQ) : LV → Bool → LV → Bool × LV
 | [], v1_1, v1_13 => (v1_1, v1_13)
 | o1 :: r, v1_1, v1_13 => cond (cond (!v1_1) (strLess a1.target (o1.name)) false)
  (Z2a a1 b1 b2 b3 b4 r true ((v1_13 ++ [(⟨a1.target, a1.size, a1.zone, ((b2.getD ((Z8 a1.source b1 b2 b3 b4).toNat) default).tag), []⟩ : XVol)]) ++ [o1]))
  (Z2a a1 b1 b2 b3 b4 r v1_1 (v1_13 ++ [o1]))
abbrev kRC2 (b2 : LV) (a1 : XCall) (b1 : LZ) (b3 : LS) (b4 : LQ) := ((b2.getD ((Z8 a1.source b1 b2 b3 b4).toNat) default).tag)
def Z82 (a1 : XCall) (b1 : LZ) (b2 : LV) (b3 : LS) (b4 : LQ) (v1_1 : Bool) (i1 : Nat) (v1_13 : LV) : St :=
 ⟨slots 201 [(0, .ptr 0 0), (3, .ptr 5 0), (4, .ptr 6 0), (8, .int .u64 (kRC2 b2 a1 b1 b3 b4)), (12, .ptr 7 0), (13, .vec 8), (14, .bool v1_1), (15, .int .i64 (i1 : Int))], (.cells 106 [.vec 1, .vec 2, .vec 3, .vec 4] :: oV (kRC0 b1 a1 b2 b3 b4) b2 b3 b4 [.cells 49 (cc a1), .cells 52 [.int .i64 0, .int .i64 0, .str (⟨#[]⟩ : BA), .int .u64 0], .cells 45 [.str a1.target, .int .i64 a1.size, .str a1.zone, .int .u64 (kRC2 b2 a1 b1 b3 b4), .nils], .vec false ⟨.vol, v1_13⟩])⟩
abbrev kRC6 (a1 : XCall) (b2 : LV) (b1 : LZ) (b3 : LS) (b4 : LQ) := (⟨a1.target, a1.size, a1.zone, (kRC2 b2 a1 b1 b3 b4), []⟩ : XVol)
def Zff (a1 : XCall) (b1 : LZ) (b2 : LV) (b3 : LS) (b4 : LQ) (v1_1 : Bool) (i1 : Nat) (v1_13 : LV) : RT :=
 (.ask (decide ((i1 : Int) < (b2.length : Int)))
   (.need [((!v1_1) = true) → (0 ≤ (i1 : Int) ∧ (i1 : Int) < (b2.length : Int))]
     (.ask (cond (!v1_1) (strLess a1.target ((b2.getD i1 default).name)) false)
       (.need [(v1_13.length + [(kRC6 a1 b2 b1 b3 b4)].length) * 72 ≤ bytesLim ∧ v1_13.length + [(kRC6 a1 b2 b1 b3 b4)].length ≤ maxLen]
         (.need [0 ≤ (i1 : Int) ∧ (i1 : Int) < (b2.length : Int)]
           (.need [((v1_13 ++ [(kRC6 a1 b2 b1 b3 b4)]).length + [(b2.getD i1 default)].length) * 72 ≤ bytesLim ∧ (v1_13 ++ [(kRC6 a1 b2 b1 b3 b4)]).length + [(b2.getD i1 default)].length ≤ maxLen]
             (.leaf .normal ⟨slots 201 [(0, .ptr 0 0), (3, .ptr 5 0), (4, .ptr 6 0), (8, .int .u64 (kRC2 b2 a1 b1 b3 b4)), (12, .ptr 7 0), (13, .vec 8), (14, .bool true), (15, .int .i64 (IntKind.i64.wrap ((i1 : Int) + (1 : Int))))], (.cells 106 [.vec 1, .vec 2, .vec 3, .vec 4] :: oV (kRC0 b1 a1 b2 b3 b4) b2 b3 b4 [.cells 49 (cc a1), .cells 52 [.int .i64 0, .int .i64 0, .str (⟨#[]⟩ : BA), .int .u64 0], .cells 45 [.str a1.target, .int .i64 a1.size, .str a1.zone, .int .u64 (kRC2 b2 a1 b1 b3 b4), .nils], .vec false ⟨.vol, ((v1_13 ++ [(kRC6 a1 b2 b1 b3 b4)]) ++ [(b2.getD i1 default)])⟩])⟩ [0, 1, 2, 3, 4, 5, 6, 7, 12]))))
       (.need [0 ≤ (i1 : Int) ∧ (i1 : Int) < (b2.length : Int)]
         (.need [(v1_13.length + [(b2.getD i1 default)].length) * 72 ≤ bytesLim ∧ v1_13.length + [(b2.getD i1 default)].length ≤ maxLen]
           (.leaf .normal ⟨slots 201 [(0, .ptr 0 0), (3, .ptr 5 0), (4, .ptr 6 0), (8, .int .u64 (kRC2 b2 a1 b1 b3 b4)), (12, .ptr 7 0), (13, .vec 8), (14, .bool v1_1), (15, .int .i64 (IntKind.i64.wrap ((i1 : Int) + (1 : Int))))], (.cells 106 [.vec 1, .vec 2, .vec 3, .vec 4] :: oV (kRC0 b1 a1 b2 b3 b4) b2 b3 b4 [.cells 49 (cc a1), .cells 52 [.int .i64 0, .int .i64 0, .str (⟨#[]⟩ : BA), .int .u64 0], .cells 45 [.str a1.target, .int .i64 a1.size, .str a1.zone, .int .u64 (kRC2 b2 a1 b1 b3 b4), .nils], .vec false ⟨.vol, (v1_13 ++ [(b2.getD i1 default)])⟩])⟩ [0, 1, 2, 3, 4, 5, 6, 7, 10])))))
   (.leaf (.exit 2) ⟨slots 201 [(0, .ptr 0 0), (3, .ptr 5 0), (4, .ptr 6 0), (8, .int .u64 (kRC2 b2 a1 b1 b3 b4)), (12, .ptr 7 0), (13, .vec 8), (14, .bool v1_1)], (.cells 106 [.vec 1, .vec 2, .vec 3, .vec 4] :: oV (kRC0 b1 a1 b2 b3 b4) b2 b3 b4 [.cells 49 (cc a1), .cells 52 [.int .i64 0, .int .i64 0, .str (⟨#[]⟩ : BA), .int .u64 0], .cells 45 [.str a1.target, .int .i64 a1.size, .str a1.zone, .int .u64 (kRC2 b2 a1 b1 b3 b4), .nils], .vec false ⟨.vol, v1_13⟩])⟩ []))
def Z67 (a1 : XCall) (b1 : LZ) (b2 : LV) (b3 : LS) (b4 : LQ) (v1_1 : Bool) (i1 : Nat) (v1_13 : LV) : Tree :=
 .leaf (.exit 2) ⟨slots 201 [(0, .ptr 0 0), (3, .ptr 5 0), (4, .ptr 6 0), (8, .int .u64 (kRC2 b2 a1 b1 b3 b4)), (12, .ptr 7 0), (13, .vec 8), (14, .bool ((Z2a a1 b1 b2 b3 b4 (b2.drop i1) v1_1 v1_13).1))], (.cells 106 [.vec 1, .vec 2, .vec 3, .vec 4] :: oV (kRC0 b1 a1 b2 b3 b4) b2 b3 b4 [.cells 49 (cc a1), .cells 52 [.int .i64 0, .int .i64 0, .str (⟨#[]⟩ : BA), .int .u64 0], .cells 45 [.str a1.target, .int .i64 a1.size, .str a1.zone, .int .u64 (kRC2 b2 a1 b1 b3 b4), .nils], .vec false ⟨.vol, (Z2a a1 b1 b2 b3 b4 (b2.drop i1) v1_1 v1_13).2⟩])⟩
theorem Z155 (a1 : XCall) (b1 : LZ) (b2 : LV) (b3 : LS) (b4 : LQ) (hp0 : b1.length ≤ 1000) (hp1 : b2.length ≤ 1000) (hp2 : b3.length ≤ 1000) (hp3 : b4.length ≤ 1000) (hp4 : ∀ v ∈ b2, v.nodes.length ≤ 1000) (hp5 : ∀ v ∈ b2, ZHas b1 v.zone) (hlen : b2.length < 4611686018427387904) (z : { z : Bool × Nat × LV // z.2.1 ≤ b2.length ∧ z.2.2.length ≤ 2 * z.2.1 }) (Q : Exit → St → Prop) (h : (Z67 a1 b1 b2 b3 b4 z.1.1 z.1.2.1 z.1.2.2).All Q) : Tr Try.prog 5 (.loop (loopAt Try.f108 0)) (Z82 a1 b1 b2 b3 b4 z.1.1 z.1.2.1 z.1.2.2) Q := by
 refine Tr_loopT (kok _ _ _ _ _ _) (E := E_rD_create) (ι := { z : Bool × Nat × LV // z.2.1 ≤ b2.length ∧ z.2.2.length ≤ 2 * z.2.1 }) 60 2 (fun _ => noLoops) (fun z => Z82 a1 b1 b2 b3 b4 z.1.1 z.1.2.1 z.1.2.2) (fun z => Z67 a1 b1 b2 b3 b4 z.1.1 z.1.2.1 z.1.2.2) (fun z => Zff a1 b1 b2 b3 b4 z.1.1 z.1.2.1 z.1.2.2) (fun z => b2.length - z.1.2.1) (fun _ => Z11.none) (fun z => by obtain ⟨⟨v1_1, i1, v1_13⟩, hi⟩ := z; kernel_rfl) (fun z => by obtain ⟨⟨v1_1, i1, v1_13⟩, hi⟩ := z; kernel_rfl) (fun z => by obtain ⟨⟨v1_1, i1, v1_13⟩, hi⟩ := z; kernel_rfl) ?_ z Q h
 rintro ⟨⟨v1_1, i1, v1_13⟩, hi⟩ Q hT
 replace hT : (Z67 a1 b1 b2 b3 b4 v1_1 i1 v1_13).All Q := hT
 replace hi : i1 ≤ b2.length ∧ v1_13.length ≤ 2 * i1 := hi
 show (Zff a1 b1 b2 b3 b4 v1_1 i1 v1_13).All _
 unfold Zff
 refine ⟨fun h0 => ?_, fun h0 => ?_⟩
 · have hlt : i1 < b2.length := by simpa using h0
   have hd := drop_getD hlt
   have hw := wrap_succ (i := i1) (by omega)
   refine ⟨Z5 (by (try refine fun (_ : _ = _) => ?_); (try refine fun (_ : _ ∧ _) => ?_); first | omega | (constructor <;> omega)) (Z9), ?_⟩
   refine ⟨fun h1 => ?_, fun h1 => ?_⟩
   · refine ⟨Z5 (by (try refine fun (_ : _ = _) => ?_); (try refine fun (_ : _ ∧ _) => ?_); unfold bytesLim maxLen; (try simp only [List.length_append, List.length_cons, List.length_nil, List.length_drop, List.length_take]); omega) (Z9), ?_⟩
     refine ⟨Z5 (by (try refine fun (_ : _ = _) => ?_); (try refine fun (_ : _ ∧ _) => ?_); first | omega | (constructor <;> omega)) (Z9), ?_⟩
     refine ⟨Z5 (by (try refine fun (_ : _ = _) => ?_); (try refine fun (_ : _ ∧ _) => ?_); unfold bytesLim maxLen; (try simp only [List.length_append, List.length_cons, List.length_nil, List.length_drop, List.length_take]); omega) (Z9), ?_⟩
     have hF : Z2a a1 b1 b2 b3 b4 (b2.drop i1) v1_1 v1_13 = Z2a a1 b1 b2 b3 b4 (b2.drop (i1 + 1)) true ((v1_13 ++ [(kRC6 a1 b2 b1 b3 b4)]) ++ [(b2.getD i1 default)]) := by rw [hd]; first | exact (Z14 h1 rfl) | simp only [Z2a, h0, h1, cond_true, cond_false]
     refine ⟨⟨(true, (i1 + 1), ((v1_13 ++ [(kRC6 a1 b2 b1 b3 b4)]) ++ [(b2.getD i1 default)])), by (first | dsimp only | skip); constructor <;> (try simp only [List.length_append, List.length_cons, List.length_nil]) <;> omega⟩, by show b2.length - (i1 + 1) < b2.length - i1; omega, ?_, ?_⟩
     · show _ = Z82 a1 b1 b2 b3 b4 true (i1 + 1) ((v1_13 ++ [(kRC6 a1 b2 b1 b3 b4)]) ++ [(b2.getD i1 default)])
       unfold Z82
       simp only [hw]
     · show (Z67 a1 b1 b2 b3 b4 true (i1 + 1) ((v1_13 ++ [(kRC6 a1 b2 b1 b3 b4)]) ++ [(b2.getD i1 default)])).All Q
       unfold Z67 at hT ⊢
       rw [hF] at hT
       exact hT
   · refine ⟨Z5 (by (try refine fun (_ : _ = _) => ?_); (try refine fun (_ : _ ∧ _) => ?_); first | omega | (constructor <;> omega)) (Z9), ?_⟩
     refine ⟨Z5 (by (try refine fun (_ : _ = _) => ?_); (try refine fun (_ : _ ∧ _) => ?_); unfold bytesLim maxLen; (try simp only [List.length_append, List.length_cons, List.length_nil, List.length_drop, List.length_take]); omega) (Z9), ?_⟩
     have hF : Z2a a1 b1 b2 b3 b4 (b2.drop i1) v1_1 v1_13 = Z2a a1 b1 b2 b3 b4 (b2.drop (i1 + 1)) v1_1 (v1_13 ++ [(b2.getD i1 default)]) := by rw [hd]; first | exact (Z7 h1 rfl) | simp only [Z2a, h0, h1, cond_true, cond_false]
     refine ⟨⟨(v1_1, (i1 + 1), (v1_13 ++ [(b2.getD i1 default)])), by (first | dsimp only | skip); constructor <;> (try simp only [List.length_append, List.length_cons, List.length_nil]) <;> omega⟩, by show b2.length - (i1 + 1) < b2.length - i1; omega, ?_, ?_⟩
     · show _ = Z82 a1 b1 b2 b3 b4 v1_1 (i1 + 1) (v1_13 ++ [(b2.getD i1 default)])
       unfold Z82
       simp only [hw]
     · show (Z67 a1 b1 b2 b3 b4 v1_1 (i1 + 1) (v1_13 ++ [(b2.getD i1 default)])).All Q
       unfold Z67 at hT ⊢
       rw [hF] at hT
       exact hT
 · have hge : ¬ i1 < b2.length := by simpa using h0
   have hd : b2.drop i1 = [] := List.drop_eq_nil_of_le (by omega)
   have hF : Z2a a1 b1 b2 b3 b4 (b2.drop i1) v1_1 v1_13 = (v1_1, v1_13) := by rw [hd]; first | exact rfl | simp only [Z2a, h0, cond_true, cond_false]
   unfold Z67 at hT
   rw [hF] at hT
   exact hT
def Z29 (a1 : XCall) : LV → Bool → LV → Bool × LV
 | [], v2_1, v2_13 => (v2_1, v2_13)
 | o2 :: r, v2_1, v2_13 => cond (cond (!v2_1) (strLess a1.target (o2.name)) false)
  (Z29 a1 r true ((v2_13 ++ [(⟨a1.target, a1.size, a1.zone, (0 : Int), []⟩ : XVol)]) ++ [o2]))
  (Z29 a1 r v2_1 (v2_13 ++ [o2]))
def Z81 (a1 : XCall) (b1 : LZ) (b2 : LV) (b3 : LS) (b4 : LQ) (v2_1 : Bool) (i2 : Nat) (v2_13 : LV) : St :=
 ⟨slots 201 [(0, .ptr 0 0), (3, .ptr 5 0), (4, .ptr 6 0), (8, .int .u64 (0 : Int)), (12, .ptr 7 0), (13, .vec 8), (14, .bool v2_1), (15, .int .i64 (i2 : Int))], (.cells 106 [.vec 1, .vec 2, .vec 3, .vec 4] :: oV (kRC0 b1 a1 b2 b3 b4) b2 b3 b4 [.cells 49 (cc a1), .cells 52 [.int .i64 0, .int .i64 0, .str (⟨#[]⟩ : BA), .int .u64 0], .cells 45 [.str a1.target, .int .i64 a1.size, .str a1.zone, .int .u64 (0 : Int), .nils], .vec false ⟨.vol, v2_13⟩])⟩
abbrev kRC4 (a1 : XCall) := (⟨a1.target, a1.size, a1.zone, (0 : Int), []⟩ : XVol)
def Zfe (a1 : XCall) (b1 : LZ) (b2 : LV) (b3 : LS) (b4 : LQ) (v2_1 : Bool) (i2 : Nat) (v2_13 : LV) : RT :=
 (.ask (decide ((i2 : Int) < (b2.length : Int)))
   (.need [((!v2_1) = true) → (0 ≤ (i2 : Int) ∧ (i2 : Int) < (b2.length : Int))]
     (.ask (cond (!v2_1) (strLess a1.target ((b2.getD i2 default).name)) false)
       (.need [(v2_13.length + [(kRC4 a1)].length) * 72 ≤ bytesLim ∧ v2_13.length + [(kRC4 a1)].length ≤ maxLen]
         (.need [0 ≤ (i2 : Int) ∧ (i2 : Int) < (b2.length : Int)]
           (.need [((v2_13 ++ [(kRC4 a1)]).length + [(b2.getD i2 default)].length) * 72 ≤ bytesLim ∧ (v2_13 ++ [(kRC4 a1)]).length + [(b2.getD i2 default)].length ≤ maxLen]
             (.leaf .normal ⟨slots 201 [(0, .ptr 0 0), (3, .ptr 5 0), (4, .ptr 6 0), (8, .int .u64 (0 : Int)), (12, .ptr 7 0), (13, .vec 8), (14, .bool true), (15, .int .i64 (IntKind.i64.wrap ((i2 : Int) + (1 : Int))))], (.cells 106 [.vec 1, .vec 2, .vec 3, .vec 4] :: oV (kRC0 b1 a1 b2 b3 b4) b2 b3 b4 [.cells 49 (cc a1), .cells 52 [.int .i64 0, .int .i64 0, .str (⟨#[]⟩ : BA), .int .u64 0], .cells 45 [.str a1.target, .int .i64 a1.size, .str a1.zone, .int .u64 (0 : Int), .nils], .vec false ⟨.vol, ((v2_13 ++ [(kRC4 a1)]) ++ [(b2.getD i2 default)])⟩])⟩ [0, 1, 2, 3, 4, 5, 6, 7, 12]))))
       (.need [0 ≤ (i2 : Int) ∧ (i2 : Int) < (b2.length : Int)]
         (.need [(v2_13.length + [(b2.getD i2 default)].length) * 72 ≤ bytesLim ∧ v2_13.length + [(b2.getD i2 default)].length ≤ maxLen]
           (.leaf .normal ⟨slots 201 [(0, .ptr 0 0), (3, .ptr 5 0), (4, .ptr 6 0), (8, .int .u64 (0 : Int)), (12, .ptr 7 0), (13, .vec 8), (14, .bool v2_1), (15, .int .i64 (IntKind.i64.wrap ((i2 : Int) + (1 : Int))))], (.cells 106 [.vec 1, .vec 2, .vec 3, .vec 4] :: oV (kRC0 b1 a1 b2 b3 b4) b2 b3 b4 [.cells 49 (cc a1), .cells 52 [.int .i64 0, .int .i64 0, .str (⟨#[]⟩ : BA), .int .u64 0], .cells 45 [.str a1.target, .int .i64 a1.size, .str a1.zone, .int .u64 (0 : Int), .nils], .vec false ⟨.vol, (v2_13 ++ [(b2.getD i2 default)])⟩])⟩ [0, 1, 2, 3, 4, 5, 6, 7, 10])))))
   (.leaf (.exit 2) ⟨slots 201 [(0, .ptr 0 0), (3, .ptr 5 0), (4, .ptr 6 0), (8, .int .u64 (0 : Int)), (12, .ptr 7 0), (13, .vec 8), (14, .bool v2_1)], (.cells 106 [.vec 1, .vec 2, .vec 3, .vec 4] :: oV (kRC0 b1 a1 b2 b3 b4) b2 b3 b4 [.cells 49 (cc a1), .cells 52 [.int .i64 0, .int .i64 0, .str (⟨#[]⟩ : BA), .int .u64 0], .cells 45 [.str a1.target, .int .i64 a1.size, .str a1.zone, .int .u64 (0 : Int), .nils], .vec false ⟨.vol, v2_13⟩])⟩ []))
def Z66 (a1 : XCall) (b1 : LZ) (b2 : LV) (b3 : LS) (b4 : LQ) (v2_1 : Bool) (i2 : Nat) (v2_13 : LV) : Tree :=
 .leaf (.exit 2) ⟨slots 201 [(0, .ptr 0 0), (3, .ptr 5 0), (4, .ptr 6 0), (8, .int .u64 (0 : Int)), (12, .ptr 7 0), (13, .vec 8), (14, .bool ((Z29 a1 (b2.drop i2) v2_1 v2_13).1))], (.cells 106 [.vec 1, .vec 2, .vec 3, .vec 4] :: oV (kRC0 b1 a1 b2 b3 b4) b2 b3 b4 [.cells 49 (cc a1), .cells 52 [.int .i64 0, .int .i64 0, .str (⟨#[]⟩ : BA), .int .u64 0], .cells 45 [.str a1.target, .int .i64 a1.size, .str a1.zone, .int .u64 (0 : Int), .nils], .vec false ⟨.vol, (Z29 a1 (b2.drop i2) v2_1 v2_13).2⟩])⟩
theorem Z154 (a1 : XCall) (b1 : LZ) (b2 : LV) (b3 : LS) (b4 : LQ) (hp0 : b1.length ≤ 1000) (hp1 : b2.length ≤ 1000) (hp2 : b3.length ≤ 1000) (hp3 : b4.length ≤ 1000) (hp4 : ∀ v ∈ b2, v.nodes.length ≤ 1000) (hp5 : ∀ v ∈ b2, ZHas b1 v.zone) (hlen : b2.length < 4611686018427387904) (z : { z : Bool × Nat × LV // z.2.1 ≤ b2.length ∧ z.2.2.length ≤ 2 * z.2.1 }) (Q : Exit → St → Prop) (h : (Z66 a1 b1 b2 b3 b4 z.1.1 z.1.2.1 z.1.2.2).All Q) : Tr Try.prog 5 (.loop (loopAt Try.f108 0)) (Z81 a1 b1 b2 b3 b4 z.1.1 z.1.2.1 z.1.2.2) Q := by
 refine Tr_loopT (kok _ _ _ _ _ _) (E := E_rD_create) (ι := { z : Bool × Nat × LV // z.2.1 ≤ b2.length ∧ z.2.2.length ≤ 2 * z.2.1 }) 60 2 (fun _ => noLoops) (fun z => Z81 a1 b1 b2 b3 b4 z.1.1 z.1.2.1 z.1.2.2) (fun z => Z66 a1 b1 b2 b3 b4 z.1.1 z.1.2.1 z.1.2.2) (fun z => Zfe a1 b1 b2 b3 b4 z.1.1 z.1.2.1 z.1.2.2) (fun z => b2.length - z.1.2.1) (fun _ => Z11.none) (fun z => by obtain ⟨⟨v2_1, i2, v2_13⟩, hi⟩ := z; kernel_rfl) (fun z => by obtain ⟨⟨v2_1, i2, v2_13⟩, hi⟩ := z; kernel_rfl) (fun z => by obtain ⟨⟨v2_1, i2, v2_13⟩, hi⟩ := z; kernel_rfl) ?_ z Q h
 rintro ⟨⟨v2_1, i2, v2_13⟩, hi⟩ Q hT
 replace hT : (Z66 a1 b1 b2 b3 b4 v2_1 i2 v2_13).All Q := hT
 replace hi : i2 ≤ b2.length ∧ v2_13.length ≤ 2 * i2 := hi
 show (Zfe a1 b1 b2 b3 b4 v2_1 i2 v2_13).All _
 unfold Zfe
 refine ⟨fun h0 => ?_, fun h0 => ?_⟩
 · have hlt : i2 < b2.length := by simpa using h0
   have hd := drop_getD hlt
   have hw := wrap_succ (i := i2) (by omega)
   refine ⟨Z5 (by (try refine fun (_ : _ = _) => ?_); (try refine fun (_ : _ ∧ _) => ?_); first | omega | (constructor <;> omega)) (Z9), ?_⟩
   refine ⟨fun h1 => ?_, fun h1 => ?_⟩
   · refine ⟨Z5 (by (try refine fun (_ : _ = _) => ?_); (try refine fun (_ : _ ∧ _) => ?_); unfold bytesLim maxLen; (try simp only [List.length_append, List.length_cons, List.length_nil, List.length_drop, List.length_take]); omega) (Z9), ?_⟩
     refine ⟨Z5 (by (try refine fun (_ : _ = _) => ?_); (try refine fun (_ : _ ∧ _) => ?_); first | omega | (constructor <;> omega)) (Z9), ?_⟩
     refine ⟨Z5 (by (try refine fun (_ : _ = _) => ?_); (try refine fun (_ : _ ∧ _) => ?_); unfold bytesLim maxLen; (try simp only [List.length_append, List.length_cons, List.length_nil, List.length_drop, List.length_take]); omega) (Z9), ?_⟩
     have hF : Z29 a1 (b2.drop i2) v2_1 v2_13 = Z29 a1 (b2.drop (i2 + 1)) true ((v2_13 ++ [(kRC4 a1)]) ++ [(b2.getD i2 default)]) := by rw [hd]; first | exact (Z14 h1 rfl) | simp only [Z29, h0, h1, cond_true, cond_false]
     refine ⟨⟨(true, (i2 + 1), ((v2_13 ++ [(kRC4 a1)]) ++ [(b2.getD i2 default)])), by (first | dsimp only | skip); constructor <;> (try simp only [List.length_append, List.length_cons, List.length_nil]) <;> omega⟩, by show b2.length - (i2 + 1) < b2.length - i2; omega, ?_, ?_⟩
     · show _ = Z81 a1 b1 b2 b3 b4 true (i2 + 1) ((v2_13 ++ [(kRC4 a1)]) ++ [(b2.getD i2 default)])
       unfold Z81
       simp only [hw]
     · show (Z66 a1 b1 b2 b3 b4 true (i2 + 1) ((v2_13 ++ [(kRC4 a1)]) ++ [(b2.getD i2 default)])).All Q
       unfold Z66 at hT ⊢
       rw [hF] at hT
       exact hT
   · refine ⟨Z5 (by (try refine fun (_ : _ = _) => ?_); (try refine fun (_ : _ ∧ _) => ?_); first | omega | (constructor <;> omega)) (Z9), ?_⟩
     refine ⟨Z5 (by (try refine fun (_ : _ = _) => ?_); (try refine fun (_ : _ ∧ _) => ?_); unfold bytesLim maxLen; (try simp only [List.length_append, List.length_cons, List.length_nil, List.length_drop, List.length_take]); omega) (Z9), ?_⟩
     have hF : Z29 a1 (b2.drop i2) v2_1 v2_13 = Z29 a1 (b2.drop (i2 + 1)) v2_1 (v2_13 ++ [(b2.getD i2 default)]) := by rw [hd]; first | exact (Z7 h1 rfl) | simp only [Z29, h0, h1, cond_true, cond_false]
     refine ⟨⟨(v2_1, (i2 + 1), (v2_13 ++ [(b2.getD i2 default)])), by (first | dsimp only | skip); constructor <;> (try simp only [List.length_append, List.length_cons, List.length_nil]) <;> omega⟩, by show b2.length - (i2 + 1) < b2.length - i2; omega, ?_, ?_⟩
     · show _ = Z81 a1 b1 b2 b3 b4 v2_1 (i2 + 1) (v2_13 ++ [(b2.getD i2 default)])
       unfold Z81
       simp only [hw]
     · show (Z66 a1 b1 b2 b3 b4 v2_1 (i2 + 1) (v2_13 ++ [(b2.getD i2 default)])).All Q
       unfold Z66 at hT ⊢
       rw [hF] at hT
       exact hT
 · have hge : ¬ i2 < b2.length := by simpa using h0
   have hd : b2.drop i2 = [] := List.drop_eq_nil_of_le (by omega)
   have hF : Z29 a1 (b2.drop i2) v2_1 v2_13 = (v2_1, v2_13) := by rw [hd]; first | exact rfl | simp only [Z29, h0, cond_true, cond_false]
   unfold Z66 at hT
   rw [hF] at hT
   exact hT
theorem Z9d (a1 : XCall) (b1 : LZ) (b2 : LV) (b3 : LS) (b4 : LQ) : ∀ (l : LV) (p : Bool) (v : LV), (Z2c a1 b1 b2 b3 b4 l p v).2.length ≤ v.length + 2 * l.length
 | [], p, v => by simp [Z2c]
 | o :: r, p, v => by
  unfold Z2c
  rw [List.length_cons]
  simp only [Bool.cond_eq_ite]
  repeat' split
  all_goals
   refine Nat.le_trans (Z9d a1 b1 b2 b3 b4 r _ _) ?_
   (try simp only [List.length_append, List.length_cons, List.length_nil])
   omega
theorem Z91 (a1 : XCall) (b1 : LZ) (b2 : LV) (b3 : LS) (b4 : LQ) : ∀ (l : LV) (p : Bool) (v : LV), (Z2a a1 b1 b2 b3 b4 l p v).2.length ≤ v.length + 2 * l.length
 | [], p, v => by simp [Z2a]
 | o :: r, p, v => by
  unfold Z2a
  rw [List.length_cons]
  simp only [Bool.cond_eq_ite]
  repeat' split
  all_goals
   refine Nat.le_trans (Z91 a1 b1 b2 b3 b4 r _ _) ?_
   (try simp only [List.length_append, List.length_cons, List.length_nil])
   omega
theorem Z90 (a1 : XCall) : ∀ (l : LV) (p : Bool) (v : LV), (Z29 a1 l p v).2.length ≤ v.length + 2 * l.length
 | [], p, v => by simp [Z29]
 | o :: r, p, v => by
  unfold Z29
  rw [List.length_cons]
  simp only [Bool.cond_eq_ite]
  repeat' split
  all_goals
   refine Nat.le_trans (Z90 a1 r _ _) ?_
   (try simp only [List.length_append, List.length_cons, List.length_nil])
   omega
def Zf (a1 : XCall) (b1 : LZ) (b2 : LV) (b3 : LS) (b4 : LQ) : XRes × LZ × LV × LS × LQ :=
 cond (decide ((Z8 a1.target b1 b2 b3 b4) ≥ (0 : Int)))
  (cond (decide (((b2.getD ((Z8 a1.target b1 b2 b3 b4).toNat) default).size) < a1.size))
    ((Zb (12 : Int)), b1, b2, b3, b4)
    ((⟨(0 : Int), ((b2.getD ((Z8 a1.target b1 b2 b3 b4).toNat) default).size), (b2.getD ((Z8 a1.target b1 b2 b3 b4).toNat) default).zone, ((b2.getD ((Z8 a1.target b1 b2 b3 b4).toNat) default).tag)⟩ : XRes), b1, b2, b3, b4))
  (cond (decide ((Z17 a1.zone b1 b2 b3 b4) < (0 : Int)))
    ((Zb (5 : Int)), b1, b2, b3, b4)
    (cond (!(decide (a1.source = (⟨#[]⟩ : BA))))
      (cond (decide ((Z24 a1.source b1 b2 b3 b4) ≥ (0 : Int)))
        (cond (decide (((b3.getD ((Z24 a1.source b1 b2 b3 b4).toNat) default).size) > a1.size))
          ((Zb (12 : Int)), b1, b2, b3, b4)
          (cond (decide ((b2.length : Int) ≥ (64 : Int)))
            ((Zb (7 : Int)), b1, b2, b3, b4)
            (cond (decide (((b1.getD ((Z17 a1.zone b1 b2 b3 b4).toNat) default).room) < a1.size))
              ((Zb (11 : Int)), b1, b2, b3, b4)
              (cond (!((Z2c a1 b1 b2 b3 b4 b2 false []).1))
                ((⟨(0 : Int), a1.size, a1.zone, ((b3.getD ((Z24 a1.source b1 b2 b3 b4).toNat) default).tag)⟩ : XRes), (b1.set ((Z17 a1.zone b1 b2 b3 b4).toNat) (⟨(b1.getD ((Z17 a1.zone b1 b2 b3 b4).toNat) default).name, (IntKind.i64.wrap (((b1.getD ((Z17 a1.zone b1 b2 b3 b4).toNat) default).room) - a1.size))⟩ : XZone)), (((Z2c a1 b1 b2 b3 b4 b2 false []).2) ++ [(⟨a1.target, a1.size, a1.zone, ((b3.getD ((Z24 a1.source b1 b2 b3 b4).toNat) default).tag), []⟩ : XVol)]), b3, b4)
                ((⟨(0 : Int), a1.size, a1.zone, ((b3.getD ((Z24 a1.source b1 b2 b3 b4).toNat) default).tag)⟩ : XRes), (b1.set ((Z17 a1.zone b1 b2 b3 b4).toNat) (⟨(b1.getD ((Z17 a1.zone b1 b2 b3 b4).toNat) default).name, (IntKind.i64.wrap (((b1.getD ((Z17 a1.zone b1 b2 b3 b4).toNat) default).room) - a1.size))⟩ : XZone)), (Z2c a1 b1 b2 b3 b4 b2 false []).2, b3, b4)))))
        (cond (decide ((Z8 a1.source b1 b2 b3 b4) ≥ (0 : Int)))
          (cond (decide (((b2.getD ((Z8 a1.source b1 b2 b3 b4).toNat) default).size) > a1.size))
            ((Zb (12 : Int)), b1, b2, b3, b4)
            (cond (decide ((b2.length : Int) ≥ (64 : Int)))
              ((Zb (7 : Int)), b1, b2, b3, b4)
              (cond (decide (((b1.getD ((Z17 a1.zone b1 b2 b3 b4).toNat) default).room) < a1.size))
                ((Zb (11 : Int)), b1, b2, b3, b4)
                (cond (!((Z2a a1 b1 b2 b3 b4 b2 false []).1))
                  ((⟨(0 : Int), a1.size, a1.zone, ((b2.getD ((Z8 a1.source b1 b2 b3 b4).toNat) default).tag)⟩ : XRes), (b1.set ((Z17 a1.zone b1 b2 b3 b4).toNat) (⟨(b1.getD ((Z17 a1.zone b1 b2 b3 b4).toNat) default).name, (IntKind.i64.wrap (((b1.getD ((Z17 a1.zone b1 b2 b3 b4).toNat) default).room) - a1.size))⟩ : XZone)), (((Z2a a1 b1 b2 b3 b4 b2 false []).2) ++ [(⟨a1.target, a1.size, a1.zone, ((b2.getD ((Z8 a1.source b1 b2 b3 b4).toNat) default).tag), []⟩ : XVol)]), b3, b4)
                  ((⟨(0 : Int), a1.size, a1.zone, ((b2.getD ((Z8 a1.source b1 b2 b3 b4).toNat) default).tag)⟩ : XRes), (b1.set ((Z17 a1.zone b1 b2 b3 b4).toNat) (⟨(b1.getD ((Z17 a1.zone b1 b2 b3 b4).toNat) default).name, (IntKind.i64.wrap (((b1.getD ((Z17 a1.zone b1 b2 b3 b4).toNat) default).room) - a1.size))⟩ : XZone)), (Z2a a1 b1 b2 b3 b4 b2 false []).2, b3, b4)))))
          ((Zb (5 : Int)), b1, b2, b3, b4)))
      (cond (decide ((0 : Int) > a1.size))
        ((Zb (12 : Int)), b1, b2, b3, b4)
        (cond (decide ((b2.length : Int) ≥ (64 : Int)))
          ((Zb (7 : Int)), b1, b2, b3, b4)
          (cond (decide (((b1.getD ((Z17 a1.zone b1 b2 b3 b4).toNat) default).room) < a1.size))
            ((Zb (11 : Int)), b1, b2, b3, b4)
            (cond (!((Z29 a1 b2 false []).1))
              ((⟨(0 : Int), a1.size, a1.zone, (0 : Int)⟩ : XRes), (b1.set ((Z17 a1.zone b1 b2 b3 b4).toNat) (⟨(b1.getD ((Z17 a1.zone b1 b2 b3 b4).toNat) default).name, (IntKind.i64.wrap (((b1.getD ((Z17 a1.zone b1 b2 b3 b4).toNat) default).room) - a1.size))⟩ : XZone)), (((Z29 a1 b2 false []).2) ++ [(⟨a1.target, a1.size, a1.zone, (0 : Int), []⟩ : XVol)]), b3, b4)
              ((⟨(0 : Int), a1.size, a1.zone, (0 : Int)⟩ : XRes), (b1.set ((Z17 a1.zone b1 b2 b3 b4).toNat) (⟨(b1.getD ((Z17 a1.zone b1 b2 b3 b4).toNat) default).name, (IntKind.i64.wrap (((b1.getD ((Z17 a1.zone b1 b2 b3 b4).toNat) default).room) - a1.size))⟩ : XZone)), (Z29 a1 b2 false []).2, b3, b4)))))))
abbrev kRC3 := (Zb (12 : Int))
abbrev kRC7 := (Zb (11 : Int))
def rD_createR (a1 : XCall) (b1 : LZ) (b2 : LV) (b3 : LS) (b4 : LQ) : RT :=
 (.need [b1.length ≤ 1000, b2.length ≤ 1000, b3.length ≤ 1000, b4.length ≤ 1000]
   (.ask (decide ((Z8 a1.target b1 b2 b3 b4) ≥ (0 : Int)))
     (.need [0 ≤ (Z8 a1.target b1 b2 b3 b4) ∧ (Z8 a1.target b1 b2 b3 b4) < (b2.length : Int)]
       (.ask (decide (((b2.getD ((Z8 a1.target b1 b2 b3 b4).toNat) default).size) < a1.size))
         (.leaf .ret ⟨slots 201 [(4, .ptr 5 0)], (.cells 106 [.vec 1, .vec 2, .vec 3, .vec 4] :: oV b1 b2 b3 b4 [.cells 52 [.int .i64 ((kRC3).err), .int .i64 ((kRC3).size), .str ((kRC3).zone), .int .u64 ((kRC3).tag)]])⟩ [0, 1, 2, 3, 4, 6])
         (.leaf .ret ⟨slots 201 [(4, .ptr 5 0)], (.cells 106 [.vec 1, .vec 2, .vec 3, .vec 4] :: oV b1 b2 b3 b4 [.cells 52 [.int .i64 0, .int .i64 ((b2.getD ((Z8 a1.target b1 b2 b3 b4).toNat) default).size), .str ((b2.getD ((Z8 a1.target b1 b2 b3 b4).toNat) default).zone), .int .u64 ((b2.getD ((Z8 a1.target b1 b2 b3 b4).toNat) default).tag)]])⟩ [0, 1, 2, 3, 4, 6])))
     (.need [b1.length ≤ 1000, b2.length ≤ 1000, b3.length ≤ 1000, b4.length ≤ 1000]
       (.ask (decide ((Z17 a1.zone b1 b2 b3 b4) < (0 : Int)))
         (.leaf .ret ⟨slots 201 [(4, .ptr 5 0)], (.cells 106 [.vec 1, .vec 2, .vec 3, .vec 4] :: oV b1 b2 b3 b4 [.cells 52 [.int .i64 ((Zb (5 : Int)).err), .int .i64 ((Zb (5 : Int)).size), .str ((Zb (5 : Int)).zone), .int .u64 ((Zb (5 : Int)).tag)]])⟩ [0, 1, 2, 3, 4, 6])
         (.ask (!(decide (a1.source = (⟨#[]⟩ : BA))))
           (.need [b1.length ≤ 1000, b2.length ≤ 1000, b3.length ≤ 1000, b4.length ≤ 1000, b1.length ≤ 1000, b2.length ≤ 1000, b3.length ≤ 1000, b4.length ≤ 1000]
             (.ask (decide ((Z24 a1.source b1 b2 b3 b4) ≥ (0 : Int)))
               (.need [0 ≤ (Z24 a1.source b1 b2 b3 b4) ∧ (Z24 a1.source b1 b2 b3 b4) < (b3.length : Int), 0 ≤ (Z24 a1.source b1 b2 b3 b4) ∧ (Z24 a1.source b1 b2 b3 b4) < (b3.length : Int)]
                 (.ask (decide (((b3.getD ((Z24 a1.source b1 b2 b3 b4).toNat) default).size) > a1.size))
                   (.leaf .ret ⟨slots 201 [(4, .ptr 5 0)], (.cells 106 [.vec 1, .vec 2, .vec 3, .vec 4] :: oV b1 b2 b3 b4 [.cells 52 [.int .i64 ((kRC3).err), .int .i64 ((kRC3).size), .str ((kRC3).zone), .int .u64 ((kRC3).tag)]])⟩ [0, 1, 2, 3, 4, 6])
                   (.ask (decide ((b2.length : Int) ≥ (64 : Int)))
                     (.leaf .ret ⟨slots 201 [(4, .ptr 5 0)], (.cells 106 [.vec 1, .vec 2, .vec 3, .vec 4] :: oV b1 b2 b3 b4 [.cells 52 [.int .i64 ((Zb (7 : Int)).err), .int .i64 ((Zb (7 : Int)).size), .str ((Zb (7 : Int)).zone), .int .u64 ((Zb (7 : Int)).tag)]])⟩ [0, 1, 2, 3, 4, 6])
                     (.need [0 ≤ (Z17 a1.zone b1 b2 b3 b4) ∧ (Z17 a1.zone b1 b2 b3 b4) < (b1.length : Int)]
                       (.ask (decide (((b1.getD ((Z17 a1.zone b1 b2 b3 b4).toNat) default).room) < a1.size))
                         (.leaf .ret ⟨slots 201 [(4, .ptr 5 0)], (.cells 106 [.vec 1, .vec 2, .vec 3, .vec 4] :: oV b1 b2 b3 b4 [.cells 52 [.int .i64 ((kRC7).err), .int .i64 ((kRC7).size), .str ((kRC7).zone), .int .u64 ((kRC7).tag)]])⟩ [0, 1, 2, 3, 4, 6])
                         (.need [0 ≤ (Z17 a1.zone b1 b2 b3 b4) ∧ (Z17 a1.zone b1 b2 b3 b4) < (b1.length : Int), 0 ≤ (Z17 a1.zone b1 b2 b3 b4) ∧ (Z17 a1.zone b1 b2 b3 b4) < (b1.length : Int)]
                           (.ask (!((Z2c a1 b1 b2 b3 b4 b2 false []).1))
                             (.need [(((Z2c a1 b1 b2 b3 b4 b2 false []).2).length + [(kRC5 a1 b3 b1 b2 b4)].length) * 72 ≤ bytesLim ∧ ((Z2c a1 b1 b2 b3 b4 b2 false []).2).length + [(kRC5 a1 b3 b1 b2 b4)].length ≤ maxLen]
                               (.leaf .ret ⟨slots 201 [(4, .ptr 5 0)], (.cells 106 [.vec 1, .vec 6, .vec 3, .vec 4] :: oV (kRC0 b1 a1 b2 b3 b4) b2 b3 b4 [.cells 52 [.int .i64 0, .int .i64 a1.size, .str a1.zone, .int .u64 (kRC1 b3 a1 b1 b2 b4)], .vec false ⟨.vol, (((Z2c a1 b1 b2 b3 b4 b2 false []).2) ++ [(kRC5 a1 b3 b1 b2 b4)])⟩])⟩ [0, 1, 2, 3, 4, 6, 10]))
                             (.leaf .ret ⟨slots 201 [(4, .ptr 5 0)], (.cells 106 [.vec 1, .vec 6, .vec 3, .vec 4] :: oV (kRC0 b1 a1 b2 b3 b4) b2 b3 b4 [.cells 52 [.int .i64 0, .int .i64 a1.size, .str a1.zone, .int .u64 (kRC1 b3 a1 b1 b2 b4)], .vec false ⟨.vol, (Z2c a1 b1 b2 b3 b4 b2 false []).2⟩])⟩ [0, 1, 2, 3, 4, 6, 8]))))))))
               (.ask (decide ((Z8 a1.source b1 b2 b3 b4) ≥ (0 : Int)))
                 (.need [0 ≤ (Z8 a1.source b1 b2 b3 b4) ∧ (Z8 a1.source b1 b2 b3 b4) < (b2.length : Int), 0 ≤ (Z8 a1.source b1 b2 b3 b4) ∧ (Z8 a1.source b1 b2 b3 b4) < (b2.length : Int)]
                   (.ask (decide (((b2.getD ((Z8 a1.source b1 b2 b3 b4).toNat) default).size) > a1.size))
                     (.leaf .ret ⟨slots 201 [(4, .ptr 5 0)], (.cells 106 [.vec 1, .vec 2, .vec 3, .vec 4] :: oV b1 b2 b3 b4 [.cells 52 [.int .i64 ((kRC3).err), .int .i64 ((kRC3).size), .str ((kRC3).zone), .int .u64 ((kRC3).tag)]])⟩ [0, 1, 2, 3, 4, 6])
                     (.ask (decide ((b2.length : Int) ≥ (64 : Int)))
                       (.leaf .ret ⟨slots 201 [(4, .ptr 5 0)], (.cells 106 [.vec 1, .vec 2, .vec 3, .vec 4] :: oV b1 b2 b3 b4 [.cells 52 [.int .i64 ((Zb (7 : Int)).err), .int .i64 ((Zb (7 : Int)).size), .str ((Zb (7 : Int)).zone), .int .u64 ((Zb (7 : Int)).tag)]])⟩ [0, 1, 2, 3, 4, 6])
                       (.need [0 ≤ (Z17 a1.zone b1 b2 b3 b4) ∧ (Z17 a1.zone b1 b2 b3 b4) < (b1.length : Int)]
                         (.ask (decide (((b1.getD ((Z17 a1.zone b1 b2 b3 b4).toNat) default).room) < a1.size))
                           (.leaf .ret ⟨slots 201 [(4, .ptr 5 0)], (.cells 106 [.vec 1, .vec 2, .vec 3, .vec 4] :: oV b1 b2 b3 b4 [.cells 52 [.int .i64 ((kRC7).err), .int .i64 ((kRC7).size), .str ((kRC7).zone), .int .u64 ((kRC7).tag)]])⟩ [0, 1, 2, 3, 4, 6])
                           (.need [0 ≤ (Z17 a1.zone b1 b2 b3 b4) ∧ (Z17 a1.zone b1 b2 b3 b4) < (b1.length : Int), 0 ≤ (Z17 a1.zone b1 b2 b3 b4) ∧ (Z17 a1.zone b1 b2 b3 b4) < (b1.length : Int)]
                             (.ask (!((Z2a a1 b1 b2 b3 b4 b2 false []).1))
                               (.need [(((Z2a a1 b1 b2 b3 b4 b2 false []).2).length + [(kRC6 a1 b2 b1 b3 b4)].length) * 72 ≤ bytesLim ∧ ((Z2a a1 b1 b2 b3 b4 b2 false []).2).length + [(kRC6 a1 b2 b1 b3 b4)].length ≤ maxLen]
                                 (.leaf .ret ⟨slots 201 [(4, .ptr 5 0)], (.cells 106 [.vec 1, .vec 6, .vec 3, .vec 4] :: oV (kRC0 b1 a1 b2 b3 b4) b2 b3 b4 [.cells 52 [.int .i64 0, .int .i64 a1.size, .str a1.zone, .int .u64 (kRC2 b2 a1 b1 b3 b4)], .vec false ⟨.vol, (((Z2a a1 b1 b2 b3 b4 b2 false []).2) ++ [(kRC6 a1 b2 b1 b3 b4)])⟩])⟩ [0, 1, 2, 3, 4, 6, 10]))
                               (.leaf .ret ⟨slots 201 [(4, .ptr 5 0)], (.cells 106 [.vec 1, .vec 6, .vec 3, .vec 4] :: oV (kRC0 b1 a1 b2 b3 b4) b2 b3 b4 [.cells 52 [.int .i64 0, .int .i64 a1.size, .str a1.zone, .int .u64 (kRC2 b2 a1 b1 b3 b4)], .vec false ⟨.vol, (Z2a a1 b1 b2 b3 b4 b2 false []).2⟩])⟩ [0, 1, 2, 3, 4, 6, 8]))))))))
                 (.leaf .ret ⟨slots 201 [(4, .ptr 5 0)], (.cells 106 [.vec 1, .vec 2, .vec 3, .vec 4] :: oV b1 b2 b3 b4 [.cells 52 [.int .i64 ((Zb (5 : Int)).err), .int .i64 ((Zb (5 : Int)).size), .str ((Zb (5 : Int)).zone), .int .u64 ((Zb (5 : Int)).tag)]])⟩ [0, 1, 2, 3, 4, 6]))))
           (.ask (decide ((0 : Int) > a1.size))
             (.leaf .ret ⟨slots 201 [(4, .ptr 5 0)], (.cells 106 [.vec 1, .vec 2, .vec 3, .vec 4] :: oV b1 b2 b3 b4 [.cells 52 [.int .i64 ((kRC3).err), .int .i64 ((kRC3).size), .str ((kRC3).zone), .int .u64 ((kRC3).tag)]])⟩ [0, 1, 2, 3, 4, 6])
             (.ask (decide ((b2.length : Int) ≥ (64 : Int)))
               (.leaf .ret ⟨slots 201 [(4, .ptr 5 0)], (.cells 106 [.vec 1, .vec 2, .vec 3, .vec 4] :: oV b1 b2 b3 b4 [.cells 52 [.int .i64 ((Zb (7 : Int)).err), .int .i64 ((Zb (7 : Int)).size), .str ((Zb (7 : Int)).zone), .int .u64 ((Zb (7 : Int)).tag)]])⟩ [0, 1, 2, 3, 4, 6])
               (.need [0 ≤ (Z17 a1.zone b1 b2 b3 b4) ∧ (Z17 a1.zone b1 b2 b3 b4) < (b1.length : Int)]
                 (.ask (decide (((b1.getD ((Z17 a1.zone b1 b2 b3 b4).toNat) default).room) < a1.size))
                   (.leaf .ret ⟨slots 201 [(4, .ptr 5 0)], (.cells 106 [.vec 1, .vec 2, .vec 3, .vec 4] :: oV b1 b2 b3 b4 [.cells 52 [.int .i64 ((kRC7).err), .int .i64 ((kRC7).size), .str ((kRC7).zone), .int .u64 ((kRC7).tag)]])⟩ [0, 1, 2, 3, 4, 6])
                   (.need [0 ≤ (Z17 a1.zone b1 b2 b3 b4) ∧ (Z17 a1.zone b1 b2 b3 b4) < (b1.length : Int), 0 ≤ (Z17 a1.zone b1 b2 b3 b4) ∧ (Z17 a1.zone b1 b2 b3 b4) < (b1.length : Int)]
                     (.ask (!((Z29 a1 b2 false []).1))
                       (.need [(((Z29 a1 b2 false []).2).length + [(kRC4 a1)].length) * 72 ≤ bytesLim ∧ ((Z29 a1 b2 false []).2).length + [(kRC4 a1)].length ≤ maxLen]
                         (.leaf .ret ⟨slots 201 [(4, .ptr 5 0)], (.cells 106 [.vec 1, .vec 6, .vec 3, .vec 4] :: oV (kRC0 b1 a1 b2 b3 b4) b2 b3 b4 [.cells 52 [.int .i64 0, .int .i64 a1.size, .str a1.zone, .int .u64 (0 : Int)], .vec false ⟨.vol, (((Z29 a1 b2 false []).2) ++ [(kRC4 a1)])⟩])⟩ [0, 1, 2, 3, 4, 6, 10]))
                       (.leaf .ret ⟨slots 201 [(4, .ptr 5 0)], (.cells 106 [.vec 1, .vec 6, .vec 3, .vec 4] :: oV (kRC0 b1 a1 b2 b3 b4) b2 b3 b4 [.cells 52 [.int .i64 0, .int .i64 a1.size, .str a1.zone, .int .u64 (0 : Int)], .vec false ⟨.vol, (Z29 a1 b2 false []).2⟩])⟩ [0, 1, 2, 3, 4, 6, 8]))))))))))))
theorem rD_createF_tr (a1 : XCall) (b1 : LZ) (b2 : LV) (b3 : LS) (b4 : LQ) (hp0 : b1.length ≤ 1000) (hp1 : b2.length ≤ 1000) (hp2 : b3.length ≤ 1000) (hp3 : b4.length ≤ 1000) (hp4 : ∀ v ∈ b2, v.nodes.length ≤ 1000) (hp5 : ∀ v ∈ b2, ZHas b1 v.zone) : Tr Try.prog 5 (bodyOf Try.f108) (fnBegins Try.f108 [.ptr 0 0, .agg (cc a1)] (.cells 106 [.vec 1, .vec 2, .vec 3, .vec 4] :: oV b1 b2 b3 b4 [])) (fnEnds Try.prog Try.f108 (.agg [.int .i64 (((Zf a1 b1 b2 b3 b4).1).err), .int .i64 (((Zf a1 b1 b2 b3 b4).1).size), .str (((Zf a1 b1 b2 b3 b4).1).zone), .int .u64 (((Zf a1 b1 b2 b3 b4).1).tag)]) (.cells 106 [.vec 5, .vec 6, .vec 7, .vec 8] :: .dead :: .dead :: .dead :: .dead :: oV ((Zf a1 b1 b2 b3 b4).2.1) ((Zf a1 b1 b2 b3 b4).2.2.1) ((Zf a1 b1 b2 b3 b4).2.2.2.1) ((Zf a1 b1 b2 b3 b4).2.2.2.2) [])) := by
 refine Tr.post ?_
 refine Tr_tree (kok _ _ _ _ _ _) (E := E_rD_create) (L := (loopsSel [(2, [(51, true), (61, true)], Z89 a1 b1 b2 b3 b4 false 0 [], [], Z7a a1 b1 b2 b3 b4 false 0 []), (2, [(51, true), (61, false)], Z82 a1 b1 b2 b3 b4 false 0 [], [], Z67 a1 b1 b2 b3 b4 false 0 []), (2, [(51, false)], Z81 a1 b1 b2 b3 b4 false 0 [], [], Z66 a1 b1 b2 b3 b4 false 0 [])])) 60 9999 (Z11.sel (by kernel_rfl) ⟨⟨by kernel_rfl, by kernel_rfl, by kernel_rfl, loopAt Try.f108 0, by kernel_rfl, (fun Q h => rD_createL_loop a1 b1 b2 b3 b4 hp0 hp1 hp2 hp3 hp4 hp5 (by omega) ⟨(false, 0, []), ⟨Nat.zero_le _, Nat.zero_le _⟩⟩ Q h)⟩, ⟨by kernel_rfl, by kernel_rfl, by kernel_rfl, loopAt Try.f108 0, by kernel_rfl, (fun Q h => Z155 a1 b1 b2 b3 b4 hp0 hp1 hp2 hp3 hp4 hp5 (by omega) ⟨(false, 0, []), ⟨Nat.zero_le _, Nat.zero_le _⟩⟩ Q h)⟩, ⟨by kernel_rfl, by kernel_rfl, by kernel_rfl, loopAt Try.f108 0, by kernel_rfl, (fun Q h => Z154 a1 b1 b2 b3 b4 hp0 hp1 hp2 hp3 hp4 hp5 (by omega) ⟨(false, 0, []), ⟨Nat.zero_le _, Nat.zero_le _⟩⟩ Q h)⟩, trivial⟩) (rD_createR a1 b1 b2 b3 b4) (by kernel_rfl) (by kernel_rfl) (by kernel_rfl) ?_
 unfold rD_createR
 refine ⟨(by (iterate 4 refine Z5 (by first | assumption | omega | ((try intro _); (try simp only [decide_eq_true_eq, decide_eq_false_iff_not, Bool.cond_false_right, Bool.cond_true_right, Bool.cond_true_left, Bool.cond_false_left, Bool.and_eq_true, Bool.or_eq_true, Bool.not_eq_true', bytesLim, maxLen, List.length_cons, List.length_nil, List.length_append, byteSize_lit] at *); omega)) ?_); exact Z9), ?_⟩
 refine ⟨fun h0 => ?_, fun h0 => ?_⟩
 · refine ⟨Z5 (by (try refine fun (_ : _ = _) => ?_); (try refine fun (_ : _ ∧ _) => ?_); have hq := rngs a1 b1 b2 b3 b4; (try simp only [decide_eq_true_eq, decide_eq_false_iff_not, Bool.not_eq_false'] at *); first | omega | (constructor <;> omega)) (Z9), ?_⟩
   refine ⟨fun h1 => ?_, fun h1 => ?_⟩
   · have hF : Zf a1 b1 b2 b3 b4 = ((kRC3), b1, b2, b3, b4) := by first | exact (Z14 h0 (Z14 h1 rfl)) | simp only [Zf, h0, h1, cond_true, cond_false]
     exact ⟨_, ((((Turn.moveC 0 0 1 6 rfl rfl rfl (by simp [hset, oM, oV])).trans (Turn.moveC 0 1 2 7 rfl rfl rfl (by simp [hset, oM, oV]))).trans (Turn.moveC 0 2 3 8 rfl rfl rfl (by simp [hset, oM, oV]))).trans (Turn.moveC 0 3 4 9 rfl rfl rfl (by simp [hset, oM, oV]))).trans (Turn.fits (p := ⟨slots 201 [(4, .ptr 9 0)], (.cells 106 [.vec 5, .vec 6, .vec 7, .vec 8] :: .dead :: .dead :: .dead :: .dead :: oV b1 b2 b3 b4 [.cells 52 [.int .i64 ((kRC3).err), .int .i64 ((kRC3).size), .str ((kRC3).zone), .int .u64 ((kRC3).tag)]])⟩) [0, 1, 2, 3, 4, 6, 7, 8, 9, 5] (by kernel_rfl) (by kernel_rfl) (by kernel_rfl) (by kernel_rfl)), trivial, .inl (by (try rw [hF]); kernel_rfl), by (try rw [hF]); kernel_rfl⟩
   · have hF : Zf a1 b1 b2 b3 b4 = ((⟨(0 : Int), ((b2.getD ((Z8 a1.target b1 b2 b3 b4).toNat) default).size), (b2.getD ((Z8 a1.target b1 b2 b3 b4).toNat) default).zone, ((b2.getD ((Z8 a1.target b1 b2 b3 b4).toNat) default).tag)⟩ : XRes), b1, b2, b3, b4) := by first | exact (Z14 h0 (Z7 h1 rfl)) | simp only [Zf, h0, h1, cond_true, cond_false]
     exact ⟨_, ((((Turn.moveC 0 0 1 6 rfl rfl rfl (by simp [hset, oM, oV])).trans (Turn.moveC 0 1 2 7 rfl rfl rfl (by simp [hset, oM, oV]))).trans (Turn.moveC 0 2 3 8 rfl rfl rfl (by simp [hset, oM, oV]))).trans (Turn.moveC 0 3 4 9 rfl rfl rfl (by simp [hset, oM, oV]))).trans (Turn.fits (p := ⟨slots 201 [(4, .ptr 9 0)], (.cells 106 [.vec 5, .vec 6, .vec 7, .vec 8] :: .dead :: .dead :: .dead :: .dead :: oV b1 b2 b3 b4 [.cells 52 [.int .i64 0, .int .i64 ((b2.getD ((Z8 a1.target b1 b2 b3 b4).toNat) default).size), .str ((b2.getD ((Z8 a1.target b1 b2 b3 b4).toNat) default).zone), .int .u64 ((b2.getD ((Z8 a1.target b1 b2 b3 b4).toNat) default).tag)]])⟩) [0, 1, 2, 3, 4, 6, 7, 8, 9, 5] (by kernel_rfl) (by kernel_rfl) (by kernel_rfl) (by kernel_rfl)), trivial, .inl (by (try rw [hF]); kernel_rfl), by (try rw [hF]); kernel_rfl⟩
 · refine ⟨(by (iterate 4 refine Z5 (by first | assumption | omega | ((try intro _); (try simp only [decide_eq_true_eq, decide_eq_false_iff_not, Bool.cond_false_right, Bool.cond_true_right, Bool.cond_true_left, Bool.cond_false_left, Bool.and_eq_true, Bool.or_eq_true, Bool.not_eq_true', bytesLim, maxLen, List.length_cons, List.length_nil, List.length_append, byteSize_lit] at *); omega)) ?_); exact Z9), ?_⟩
   refine ⟨fun h1 => ?_, fun h1 => ?_⟩
   · have hF : Zf a1 b1 b2 b3 b4 = ((Zb (5 : Int)), b1, b2, b3, b4) := by first | exact (Z7 h0 (Z14 h1 rfl)) | simp only [Zf, h0, h1, cond_true, cond_false]
     exact ⟨_, ((((Turn.moveC 0 0 1 6 rfl rfl rfl (by simp [hset, oM, oV])).trans (Turn.moveC 0 1 2 7 rfl rfl rfl (by simp [hset, oM, oV]))).trans (Turn.moveC 0 2 3 8 rfl rfl rfl (by simp [hset, oM, oV]))).trans (Turn.moveC 0 3 4 9 rfl rfl rfl (by simp [hset, oM, oV]))).trans (Turn.fits (p := ⟨slots 201 [(4, .ptr 9 0)], (.cells 106 [.vec 5, .vec 6, .vec 7, .vec 8] :: .dead :: .dead :: .dead :: .dead :: oV b1 b2 b3 b4 [.cells 52 [.int .i64 ((Zb (5 : Int)).err), .int .i64 ((Zb (5 : Int)).size), .str ((Zb (5 : Int)).zone), .int .u64 ((Zb (5 : Int)).tag)]])⟩) [0, 1, 2, 3, 4, 6, 7, 8, 9, 5] (by kernel_rfl) (by kernel_rfl) (by kernel_rfl) (by kernel_rfl)), trivial, .inl (by (try rw [hF]); kernel_rfl), by (try rw [hF]); kernel_rfl⟩
   · refine ⟨fun h2 => ?_, fun h2 => ?_⟩
     · refine ⟨(by (iterate 8 refine Z5 (by first | assumption | omega | ((try intro _); (try simp only [decide_eq_true_eq, decide_eq_false_iff_not, Bool.cond_false_right, Bool.cond_true_right, Bool.cond_true_left, Bool.cond_false_left, Bool.and_eq_true, Bool.or_eq_true, Bool.not_eq_true', bytesLim, maxLen, List.length_cons, List.length_nil, List.length_append, byteSize_lit] at *); omega)) ?_); exact Z9), ?_⟩
       refine ⟨fun h3 => ?_, fun h3 => ?_⟩
       · refine ⟨(by (iterate 2 refine Z5 (by (try refine fun (_ : _ = _) => ?_); (try refine fun (_ : _ ∧ _) => ?_); have hq := rngs a1 b1 b2 b3 b4; (try simp only [decide_eq_true_eq, decide_eq_false_iff_not, Bool.not_eq_false'] at *); first | omega | (constructor <;> omega)) ?_); exact Z9), ?_⟩
         refine ⟨fun h4 => ?_, fun h4 => ?_⟩
         · have hF : Zf a1 b1 b2 b3 b4 = ((kRC3), b1, b2, b3, b4) := by first | exact (Z7 h0 (Z7 h1 (Z14 h2 (Z14 h3 (Z14 h4 rfl))))) | simp only [Zf, h0, h1, h2, h3, h4, cond_true, cond_false]
           exact ⟨_, ((((Turn.moveC 0 0 1 6 rfl rfl rfl (by simp [hset, oM, oV])).trans (Turn.moveC 0 1 2 7 rfl rfl rfl (by simp [hset, oM, oV]))).trans (Turn.moveC 0 2 3 8 rfl rfl rfl (by simp [hset, oM, oV]))).trans (Turn.moveC 0 3 4 9 rfl rfl rfl (by simp [hset, oM, oV]))).trans (Turn.fits (p := ⟨slots 201 [(4, .ptr 9 0)], (.cells 106 [.vec 5, .vec 6, .vec 7, .vec 8] :: .dead :: .dead :: .dead :: .dead :: oV b1 b2 b3 b4 [.cells 52 [.int .i64 ((kRC3).err), .int .i64 ((kRC3).size), .str ((kRC3).zone), .int .u64 ((kRC3).tag)]])⟩) [0, 1, 2, 3, 4, 6, 7, 8, 9, 5] (by kernel_rfl) (by kernel_rfl) (by kernel_rfl) (by kernel_rfl)), trivial, .inl (by (try rw [hF]); kernel_rfl), by (try rw [hF]); kernel_rfl⟩
         · refine ⟨fun h5 => ?_, fun h5 => ?_⟩
           · have hF : Zf a1 b1 b2 b3 b4 = ((Zb (7 : Int)), b1, b2, b3, b4) := by first | exact (Z7 h0 (Z7 h1 (Z14 h2 (Z14 h3 (Z7 h4 (Z14 h5 rfl)))))) | simp only [Zf, h0, h1, h2, h3, h4, h5, cond_true, cond_false]
             exact ⟨_, ((((Turn.moveC 0 0 1 6 rfl rfl rfl (by simp [hset, oM, oV])).trans (Turn.moveC 0 1 2 7 rfl rfl rfl (by simp [hset, oM, oV]))).trans (Turn.moveC 0 2 3 8 rfl rfl rfl (by simp [hset, oM, oV]))).trans (Turn.moveC 0 3 4 9 rfl rfl rfl (by simp [hset, oM, oV]))).trans (Turn.fits (p := ⟨slots 201 [(4, .ptr 9 0)], (.cells 106 [.vec 5, .vec 6, .vec 7, .vec 8] :: .dead :: .dead :: .dead :: .dead :: oV b1 b2 b3 b4 [.cells 52 [.int .i64 ((Zb (7 : Int)).err), .int .i64 ((Zb (7 : Int)).size), .str ((Zb (7 : Int)).zone), .int .u64 ((Zb (7 : Int)).tag)]])⟩) [0, 1, 2, 3, 4, 6, 7, 8, 9, 5] (by kernel_rfl) (by kernel_rfl) (by kernel_rfl) (by kernel_rfl)), trivial, .inl (by (try rw [hF]); kernel_rfl), by (try rw [hF]); kernel_rfl⟩
           · refine ⟨Z5 (by (try refine fun (_ : _ = _) => ?_); (try refine fun (_ : _ ∧ _) => ?_); have hq := rngs a1 b1 b2 b3 b4; (try simp only [decide_eq_true_eq, decide_eq_false_iff_not, Bool.not_eq_false'] at *); first | omega | (constructor <;> omega)) (Z9), ?_⟩
             refine ⟨fun h6 => ?_, fun h6 => ?_⟩
             · have hF : Zf a1 b1 b2 b3 b4 = ((kRC7), b1, b2, b3, b4) := by first | exact (Z7 h0 (Z7 h1 (Z14 h2 (Z14 h3 (Z7 h4 (Z7 h5 (Z14 h6 rfl))))))) | simp only [Zf, h0, h1, h2, h3, h4, h5, h6, cond_true, cond_false]
               exact ⟨_, ((((Turn.moveC 0 0 1 6 rfl rfl rfl (by simp [hset, oM, oV])).trans (Turn.moveC 0 1 2 7 rfl rfl rfl (by simp [hset, oM, oV]))).trans (Turn.moveC 0 2 3 8 rfl rfl rfl (by simp [hset, oM, oV]))).trans (Turn.moveC 0 3 4 9 rfl rfl rfl (by simp [hset, oM, oV]))).trans (Turn.fits (p := ⟨slots 201 [(4, .ptr 9 0)], (.cells 106 [.vec 5, .vec 6, .vec 7, .vec 8] :: .dead :: .dead :: .dead :: .dead :: oV b1 b2 b3 b4 [.cells 52 [.int .i64 ((kRC7).err), .int .i64 ((kRC7).size), .str ((kRC7).zone), .int .u64 ((kRC7).tag)]])⟩) [0, 1, 2, 3, 4, 6, 7, 8, 9, 5] (by kernel_rfl) (by kernel_rfl) (by kernel_rfl) (by kernel_rfl)), trivial, .inl (by (try rw [hF]); kernel_rfl), by (try rw [hF]); kernel_rfl⟩
             · refine ⟨(by (iterate 2 refine Z5 (by (try refine fun (_ : _ = _) => ?_); (try refine fun (_ : _ ∧ _) => ?_); have hq := rngs a1 b1 b2 b3 b4; (try simp only [decide_eq_true_eq, decide_eq_false_iff_not, Bool.not_eq_false'] at *); first | omega | (constructor <;> omega)) ?_); exact Z9), ?_⟩
               refine ⟨fun h7 => ?_, fun h7 => ?_⟩
               · refine ⟨Z5 (by (try refine fun (_ : _ = _) => ?_); (try refine fun (_ : _ ∧ _) => ?_); (try have h80 := Z9d a1 b1 b2 b3 b4 b2 false []); (try have h81 := Z91 a1 b1 b2 b3 b4 b2 false []); (try have h82 := Z90 a1 b2 false []); (try simp only [List.length_nil] at *); unfold bytesLim maxLen; (try simp only [List.length_append, List.length_cons, List.length_nil, List.length_drop, List.length_take]); omega) (Z9), ?_⟩
                 have hF : Zf a1 b1 b2 b3 b4 = ((⟨(0 : Int), a1.size, a1.zone, (kRC1 b3 a1 b1 b2 b4)⟩ : XRes), (kRC0 b1 a1 b2 b3 b4), (((Z2c a1 b1 b2 b3 b4 b2 false []).2) ++ [(kRC5 a1 b3 b1 b2 b4)]), b3, b4) := by first | exact (Z7 h0 (Z7 h1 (Z14 h2 (Z14 h3 (Z7 h4 (Z7 h5 (Z7 h6 (Z14 h7 rfl)))))))) | simp only [Zf, h0, h1, h2, h3, h4, h5, h6, h7, cond_true, cond_false]
                 exact ⟨_, ((((Turn.moveC 0 0 1 7 rfl rfl rfl (by simp [hset, oM, oV])).trans (Turn.moveC 0 1 6 8 rfl rfl rfl (by simp [hset, oM, oV]))).trans (Turn.moveC 0 2 3 9 rfl rfl rfl (by simp [hset, oM, oV]))).trans (Turn.moveC 0 3 4 10 rfl rfl rfl (by simp [hset, oM, oV]))).trans (Turn.fits (p := ⟨slots 201 [(4, .ptr 9 0)], (.cells 106 [.vec 5, .vec 6, .vec 7, .vec 8] :: .dead :: .dead :: .dead :: .dead :: oV (kRC0 b1 a1 b2 b3 b4) (((Z2c a1 b1 b2 b3 b4 b2 false []).2) ++ [(kRC5 a1 b3 b1 b2 b4)]) b3 b4 [.cells 52 [.int .i64 0, .int .i64 a1.size, .str a1.zone, .int .u64 (kRC1 b3 a1 b1 b2 b4)]])⟩) [0, 1, 2, 3, 4, 7, 8, 9, 10, 5] (by kernel_rfl) (by kernel_rfl) (by kernel_rfl) (by kernel_rfl)), trivial, .inl (by (try rw [hF]); kernel_rfl), by (try rw [hF]); kernel_rfl⟩
               · have hF : Zf a1 b1 b2 b3 b4 = ((⟨(0 : Int), a1.size, a1.zone, (kRC1 b3 a1 b1 b2 b4)⟩ : XRes), (kRC0 b1 a1 b2 b3 b4), (Z2c a1 b1 b2 b3 b4 b2 false []).2, b3, b4) := by first | exact (Z7 h0 (Z7 h1 (Z14 h2 (Z14 h3 (Z7 h4 (Z7 h5 (Z7 h6 (Z7 h7 rfl)))))))) | simp only [Zf, h0, h1, h2, h3, h4, h5, h6, h7, cond_true, cond_false]
                 exact ⟨_, ((((Turn.moveC 0 0 1 7 rfl rfl rfl (by simp [hset, oM, oV])).trans (Turn.moveC 0 1 6 8 rfl rfl rfl (by simp [hset, oM, oV]))).trans (Turn.moveC 0 2 3 9 rfl rfl rfl (by simp [hset, oM, oV]))).trans (Turn.moveC 0 3 4 10 rfl rfl rfl (by simp [hset, oM, oV]))).trans (Turn.fits (p := ⟨slots 201 [(4, .ptr 9 0)], (.cells 106 [.vec 5, .vec 6, .vec 7, .vec 8] :: .dead :: .dead :: .dead :: .dead :: oV (kRC0 b1 a1 b2 b3 b4) ((Z2c a1 b1 b2 b3 b4 b2 false []).2) b3 b4 [.cells 52 [.int .i64 0, .int .i64 a1.size, .str a1.zone, .int .u64 (kRC1 b3 a1 b1 b2 b4)]])⟩) [0, 1, 2, 3, 4, 7, 8, 9, 10, 5] (by kernel_rfl) (by kernel_rfl) (by kernel_rfl) (by kernel_rfl)), trivial, .inl (by (try rw [hF]); kernel_rfl), by (try rw [hF]); kernel_rfl⟩
       · refine ⟨fun h4 => ?_, fun h4 => ?_⟩
         · refine ⟨(by (iterate 2 refine Z5 (by (try refine fun (_ : _ = _) => ?_); (try refine fun (_ : _ ∧ _) => ?_); have hq := rngs a1 b1 b2 b3 b4; (try simp only [decide_eq_true_eq, decide_eq_false_iff_not, Bool.not_eq_false'] at *); first | omega | (constructor <;> omega)) ?_); exact Z9), ?_⟩
           refine ⟨fun h5 => ?_, fun h5 => ?_⟩
           · have hF : Zf a1 b1 b2 b3 b4 = ((kRC3), b1, b2, b3, b4) := by first | exact (Z7 h0 (Z7 h1 (Z14 h2 (Z7 h3 (Z14 h4 (Z14 h5 rfl)))))) | simp only [Zf, h0, h1, h2, h3, h4, h5, cond_true, cond_false]
             exact ⟨_, ((((Turn.moveC 0 0 1 6 rfl rfl rfl (by simp [hset, oM, oV])).trans (Turn.moveC 0 1 2 7 rfl rfl rfl (by simp [hset, oM, oV]))).trans (Turn.moveC 0 2 3 8 rfl rfl rfl (by simp [hset, oM, oV]))).trans (Turn.moveC 0 3 4 9 rfl rfl rfl (by simp [hset, oM, oV]))).trans (Turn.fits (p := ⟨slots 201 [(4, .ptr 9 0)], (.cells 106 [.vec 5, .vec 6, .vec 7, .vec 8] :: .dead :: .dead :: .dead :: .dead :: oV b1 b2 b3 b4 [.cells 52 [.int .i64 ((kRC3).err), .int .i64 ((kRC3).size), .str ((kRC3).zone), .int .u64 ((kRC3).tag)]])⟩) [0, 1, 2, 3, 4, 6, 7, 8, 9, 5] (by kernel_rfl) (by kernel_rfl) (by kernel_rfl) (by kernel_rfl)), trivial, .inl (by (try rw [hF]); kernel_rfl), by (try rw [hF]); kernel_rfl⟩
           · refine ⟨fun h6 => ?_, fun h6 => ?_⟩
             · have hF : Zf a1 b1 b2 b3 b4 = ((Zb (7 : Int)), b1, b2, b3, b4) := by first | exact (Z7 h0 (Z7 h1 (Z14 h2 (Z7 h3 (Z14 h4 (Z7 h5 (Z14 h6 rfl))))))) | simp only [Zf, h0, h1, h2, h3, h4, h5, h6, cond_true, cond_false]
               exact ⟨_, ((((Turn.moveC 0 0 1 6 rfl rfl rfl (by simp [hset, oM, oV])).trans (Turn.moveC 0 1 2 7 rfl rfl rfl (by simp [hset, oM, oV]))).trans (Turn.moveC 0 2 3 8 rfl rfl rfl (by simp [hset, oM, oV]))).trans (Turn.moveC 0 3 4 9 rfl rfl rfl (by simp [hset, oM, oV]))).trans (Turn.fits (p := ⟨slots 201 [(4, .ptr 9 0)], (.cells 106 [.vec 5, .vec 6, .vec 7, .vec 8] :: .dead :: .dead :: .dead :: .dead :: oV b1 b2 b3 b4 [.cells 52 [.int .i64 ((Zb (7 : Int)).err), .int .i64 ((Zb (7 : Int)).size), .str ((Zb (7 : Int)).zone), .int .u64 ((Zb (7 : Int)).tag)]])⟩) [0, 1, 2, 3, 4, 6, 7, 8, 9, 5] (by kernel_rfl) (by kernel_rfl) (by kernel_rfl) (by kernel_rfl)), trivial, .inl (by (try rw [hF]); kernel_rfl), by (try rw [hF]); kernel_rfl⟩
             · refine ⟨Z5 (by (try refine fun (_ : _ = _) => ?_); (try refine fun (_ : _ ∧ _) => ?_); have hq := rngs a1 b1 b2 b3 b4; (try simp only [decide_eq_true_eq, decide_eq_false_iff_not, Bool.not_eq_false'] at *); first | omega | (constructor <;> omega)) (Z9), ?_⟩
               refine ⟨fun h7 => ?_, fun h7 => ?_⟩
               · have hF : Zf a1 b1 b2 b3 b4 = ((kRC7), b1, b2, b3, b4) := by first | exact (Z7 h0 (Z7 h1 (Z14 h2 (Z7 h3 (Z14 h4 (Z7 h5 (Z7 h6 (Z14 h7 rfl)))))))) | simp only [Zf, h0, h1, h2, h3, h4, h5, h6, h7, cond_true, cond_false]
                 exact ⟨_, ((((Turn.moveC 0 0 1 6 rfl rfl rfl (by simp [hset, oM, oV])).trans (Turn.moveC 0 1 2 7 rfl rfl rfl (by simp [hset, oM, oV]))).trans (Turn.moveC 0 2 3 8 rfl rfl rfl (by simp [hset, oM, oV]))).trans (Turn.moveC 0 3 4 9 rfl rfl rfl (by simp [hset, oM, oV]))).trans (Turn.fits (p := ⟨slots 201 [(4, .ptr 9 0)], (.cells 106 [.vec 5, .vec 6, .vec 7, .vec 8] :: .dead :: .dead :: .dead :: .dead :: oV b1 b2 b3 b4 [.cells 52 [.int .i64 ((kRC7).err), .int .i64 ((kRC7).size), .str ((kRC7).zone), .int .u64 ((kRC7).tag)]])⟩) [0, 1, 2, 3, 4, 6, 7, 8, 9, 5] (by kernel_rfl) (by kernel_rfl) (by kernel_rfl) (by kernel_rfl)), trivial, .inl (by (try rw [hF]); kernel_rfl), by (try rw [hF]); kernel_rfl⟩
               · refine ⟨(by (iterate 2 refine Z5 (by (try refine fun (_ : _ = _) => ?_); (try refine fun (_ : _ ∧ _) => ?_); have hq := rngs a1 b1 b2 b3 b4; (try simp only [decide_eq_true_eq, decide_eq_false_iff_not, Bool.not_eq_false'] at *); first | omega | (constructor <;> omega)) ?_); exact Z9), ?_⟩
                 refine ⟨fun h8 => ?_, fun h8 => ?_⟩
                 · refine ⟨Z5 (by (try refine fun (_ : _ = _) => ?_); (try refine fun (_ : _ ∧ _) => ?_); (try have h80 := Z9d a1 b1 b2 b3 b4 b2 false []); (try have h81 := Z91 a1 b1 b2 b3 b4 b2 false []); (try have h82 := Z90 a1 b2 false []); (try simp only [List.length_nil] at *); unfold bytesLim maxLen; (try simp only [List.length_append, List.length_cons, List.length_nil, List.length_drop, List.length_take]); omega) (Z9), ?_⟩
                   have hF : Zf a1 b1 b2 b3 b4 = ((⟨(0 : Int), a1.size, a1.zone, (kRC2 b2 a1 b1 b3 b4)⟩ : XRes), (kRC0 b1 a1 b2 b3 b4), (((Z2a a1 b1 b2 b3 b4 b2 false []).2) ++ [(kRC6 a1 b2 b1 b3 b4)]), b3, b4) := by first | exact (Z7 h0 (Z7 h1 (Z14 h2 (Z7 h3 (Z14 h4 (Z7 h5 (Z7 h6 (Z7 h7 (Z14 h8 rfl))))))))) | simp only [Zf, h0, h1, h2, h3, h4, h5, h6, h7, h8, cond_true, cond_false]
                   exact ⟨_, ((((Turn.moveC 0 0 1 7 rfl rfl rfl (by simp [hset, oM, oV])).trans (Turn.moveC 0 1 6 8 rfl rfl rfl (by simp [hset, oM, oV]))).trans (Turn.moveC 0 2 3 9 rfl rfl rfl (by simp [hset, oM, oV]))).trans (Turn.moveC 0 3 4 10 rfl rfl rfl (by simp [hset, oM, oV]))).trans (Turn.fits (p := ⟨slots 201 [(4, .ptr 9 0)], (.cells 106 [.vec 5, .vec 6, .vec 7, .vec 8] :: .dead :: .dead :: .dead :: .dead :: oV (kRC0 b1 a1 b2 b3 b4) (((Z2a a1 b1 b2 b3 b4 b2 false []).2) ++ [(kRC6 a1 b2 b1 b3 b4)]) b3 b4 [.cells 52 [.int .i64 0, .int .i64 a1.size, .str a1.zone, .int .u64 (kRC2 b2 a1 b1 b3 b4)]])⟩) [0, 1, 2, 3, 4, 7, 8, 9, 10, 5] (by kernel_rfl) (by kernel_rfl) (by kernel_rfl) (by kernel_rfl)), trivial, .inl (by (try rw [hF]); kernel_rfl), by (try rw [hF]); kernel_rfl⟩
                 · have hF : Zf a1 b1 b2 b3 b4 = ((⟨(0 : Int), a1.size, a1.zone, (kRC2 b2 a1 b1 b3 b4)⟩ : XRes), (kRC0 b1 a1 b2 b3 b4), (Z2a a1 b1 b2 b3 b4 b2 false []).2, b3, b4) := by first | exact (Z7 h0 (Z7 h1 (Z14 h2 (Z7 h3 (Z14 h4 (Z7 h5 (Z7 h6 (Z7 h7 (Z7 h8 rfl))))))))) | simp only [Zf, h0, h1, h2, h3, h4, h5, h6, h7, h8, cond_true, cond_false]
                   exact ⟨_, ((((Turn.moveC 0 0 1 7 rfl rfl rfl (by simp [hset, oM, oV])).trans (Turn.moveC 0 1 6 8 rfl rfl rfl (by simp [hset, oM, oV]))).trans (Turn.moveC 0 2 3 9 rfl rfl rfl (by simp [hset, oM, oV]))).trans (Turn.moveC 0 3 4 10 rfl rfl rfl (by simp [hset, oM, oV]))).trans (Turn.fits (p := ⟨slots 201 [(4, .ptr 9 0)], (.cells 106 [.vec 5, .vec 6, .vec 7, .vec 8] :: .dead :: .dead :: .dead :: .dead :: oV (kRC0 b1 a1 b2 b3 b4) ((Z2a a1 b1 b2 b3 b4 b2 false []).2) b3 b4 [.cells 52 [.int .i64 0, .int .i64 a1.size, .str a1.zone, .int .u64 (kRC2 b2 a1 b1 b3 b4)]])⟩) [0, 1, 2, 3, 4, 7, 8, 9, 10, 5] (by kernel_rfl) (by kernel_rfl) (by kernel_rfl) (by kernel_rfl)), trivial, .inl (by (try rw [hF]); kernel_rfl), by (try rw [hF]); kernel_rfl⟩
         · have hF : Zf a1 b1 b2 b3 b4 = ((Zb (5 : Int)), b1, b2, b3, b4) := by first | exact (Z7 h0 (Z7 h1 (Z14 h2 (Z7 h3 (Z7 h4 rfl))))) | simp only [Zf, h0, h1, h2, h3, h4, cond_true, cond_false]
           exact ⟨_, ((((Turn.moveC 0 0 1 6 rfl rfl rfl (by simp [hset, oM, oV])).trans (Turn.moveC 0 1 2 7 rfl rfl rfl (by simp [hset, oM, oV]))).trans (Turn.moveC 0 2 3 8 rfl rfl rfl (by simp [hset, oM, oV]))).trans (Turn.moveC 0 3 4 9 rfl rfl rfl (by simp [hset, oM, oV]))).trans (Turn.fits (p := ⟨slots 201 [(4, .ptr 9 0)], (.cells 106 [.vec 5, .vec 6, .vec 7, .vec 8] :: .dead :: .dead :: .dead :: .dead :: oV b1 b2 b3 b4 [.cells 52 [.int .i64 ((Zb (5 : Int)).err), .int .i64 ((Zb (5 : Int)).size), .str ((Zb (5 : Int)).zone), .int .u64 ((Zb (5 : Int)).tag)]])⟩) [0, 1, 2, 3, 4, 6, 7, 8, 9, 5] (by kernel_rfl) (by kernel_rfl) (by kernel_rfl) (by kernel_rfl)), trivial, .inl (by (try rw [hF]); kernel_rfl), by (try rw [hF]); kernel_rfl⟩
     · refine ⟨fun h3 => ?_, fun h3 => ?_⟩
       · have hF : Zf a1 b1 b2 b3 b4 = ((kRC3), b1, b2, b3, b4) := by first | exact (Z7 h0 (Z7 h1 (Z7 h2 (Z14 h3 rfl)))) | simp only [Zf, h0, h1, h2, h3, cond_true, cond_false]
         exact ⟨_, ((((Turn.moveC 0 0 1 6 rfl rfl rfl (by simp [hset, oM, oV])).trans (Turn.moveC 0 1 2 7 rfl rfl rfl (by simp [hset, oM, oV]))).trans (Turn.moveC 0 2 3 8 rfl rfl rfl (by simp [hset, oM, oV]))).trans (Turn.moveC 0 3 4 9 rfl rfl rfl (by simp [hset, oM, oV]))).trans (Turn.fits (p := ⟨slots 201 [(4, .ptr 9 0)], (.cells 106 [.vec 5, .vec 6, .vec 7, .vec 8] :: .dead :: .dead :: .dead :: .dead :: oV b1 b2 b3 b4 [.cells 52 [.int .i64 ((kRC3).err), .int .i64 ((kRC3).size), .str ((kRC3).zone), .int .u64 ((kRC3).tag)]])⟩) [0, 1, 2, 3, 4, 6, 7, 8, 9, 5] (by kernel_rfl) (by kernel_rfl) (by kernel_rfl) (by kernel_rfl)), trivial, .inl (by (try rw [hF]); kernel_rfl), by (try rw [hF]); kernel_rfl⟩
       · refine ⟨fun h4 => ?_, fun h4 => ?_⟩
         · have hF : Zf a1 b1 b2 b3 b4 = ((Zb (7 : Int)), b1, b2, b3, b4) := by first | exact (Z7 h0 (Z7 h1 (Z7 h2 (Z7 h3 (Z14 h4 rfl))))) | simp only [Zf, h0, h1, h2, h3, h4, cond_true, cond_false]
           exact ⟨_, ((((Turn.moveC 0 0 1 6 rfl rfl rfl (by simp [hset, oM, oV])).trans (Turn.moveC 0 1 2 7 rfl rfl rfl (by simp [hset, oM, oV]))).trans (Turn.moveC 0 2 3 8 rfl rfl rfl (by simp [hset, oM, oV]))).trans (Turn.moveC 0 3 4 9 rfl rfl rfl (by simp [hset, oM, oV]))).trans (Turn.fits (p := ⟨slots 201 [(4, .ptr 9 0)], (.cells 106 [.vec 5, .vec 6, .vec 7, .vec 8] :: .dead :: .dead :: .dead :: .dead :: oV b1 b2 b3 b4 [.cells 52 [.int .i64 ((Zb (7 : Int)).err), .int .i64 ((Zb (7 : Int)).size), .str ((Zb (7 : Int)).zone), .int .u64 ((Zb (7 : Int)).tag)]])⟩) [0, 1, 2, 3, 4, 6, 7, 8, 9, 5] (by kernel_rfl) (by kernel_rfl) (by kernel_rfl) (by kernel_rfl)), trivial, .inl (by (try rw [hF]); kernel_rfl), by (try rw [hF]); kernel_rfl⟩
         · refine ⟨Z5 (by (try refine fun (_ : _ = _) => ?_); (try refine fun (_ : _ ∧ _) => ?_); have hq := rngs a1 b1 b2 b3 b4; (try simp only [decide_eq_true_eq, decide_eq_false_iff_not, Bool.not_eq_false'] at *); first | omega | (constructor <;> omega)) (Z9), ?_⟩
           refine ⟨fun h5 => ?_, fun h5 => ?_⟩
           · have hF : Zf a1 b1 b2 b3 b4 = ((kRC7), b1, b2, b3, b4) := by first | exact (Z7 h0 (Z7 h1 (Z7 h2 (Z7 h3 (Z7 h4 (Z14 h5 rfl)))))) | simp only [Zf, h0, h1, h2, h3, h4, h5, cond_true, cond_false]
             exact ⟨_, ((((Turn.moveC 0 0 1 6 rfl rfl rfl (by simp [hset, oM, oV])).trans (Turn.moveC 0 1 2 7 rfl rfl rfl (by simp [hset, oM, oV]))).trans (Turn.moveC 0 2 3 8 rfl rfl rfl (by simp [hset, oM, oV]))).trans (Turn.moveC 0 3 4 9 rfl rfl rfl (by simp [hset, oM, oV]))).trans (Turn.fits (p := ⟨slots 201 [(4, .ptr 9 0)], (.cells 106 [.vec 5, .vec 6, .vec 7, .vec 8] :: .dead :: .dead :: .dead :: .dead :: oV b1 b2 b3 b4 [.cells 52 [.int .i64 ((kRC7).err), .int .i64 ((kRC7).size), .str ((kRC7).zone), .int .u64 ((kRC7).tag)]])⟩) [0, 1, 2, 3, 4, 6, 7, 8, 9, 5] (by kernel_rfl) (by kernel_rfl) (by kernel_rfl) (by kernel_rfl)), trivial, .inl (by (try rw [hF]); kernel_rfl), by (try rw [hF]); kernel_rfl⟩
           · refine ⟨(by (iterate 2 refine Z5 (by (try refine fun (_ : _ = _) => ?_); (try refine fun (_ : _ ∧ _) => ?_); have hq := rngs a1 b1 b2 b3 b4; (try simp only [decide_eq_true_eq, decide_eq_false_iff_not, Bool.not_eq_false'] at *); first | omega | (constructor <;> omega)) ?_); exact Z9), ?_⟩
             refine ⟨fun h6 => ?_, fun h6 => ?_⟩
             · refine ⟨Z5 (by (try refine fun (_ : _ = _) => ?_); (try refine fun (_ : _ ∧ _) => ?_); (try have h80 := Z9d a1 b1 b2 b3 b4 b2 false []); (try have h81 := Z91 a1 b1 b2 b3 b4 b2 false []); (try have h82 := Z90 a1 b2 false []); (try simp only [List.length_nil] at *); unfold bytesLim maxLen; (try simp only [List.length_append, List.length_cons, List.length_nil, List.length_drop, List.length_take]); omega) (Z9), ?_⟩
               have hF : Zf a1 b1 b2 b3 b4 = ((⟨(0 : Int), a1.size, a1.zone, (0 : Int)⟩ : XRes), (kRC0 b1 a1 b2 b3 b4), (((Z29 a1 b2 false []).2) ++ [(kRC4 a1)]), b3, b4) := by first | exact (Z7 h0 (Z7 h1 (Z7 h2 (Z7 h3 (Z7 h4 (Z7 h5 (Z14 h6 rfl))))))) | simp only [Zf, h0, h1, h2, h3, h4, h5, h6, cond_true, cond_false]
               exact ⟨_, ((((Turn.moveC 0 0 1 7 rfl rfl rfl (by simp [hset, oM, oV])).trans (Turn.moveC 0 1 6 8 rfl rfl rfl (by simp [hset, oM, oV]))).trans (Turn.moveC 0 2 3 9 rfl rfl rfl (by simp [hset, oM, oV]))).trans (Turn.moveC 0 3 4 10 rfl rfl rfl (by simp [hset, oM, oV]))).trans (Turn.fits (p := ⟨slots 201 [(4, .ptr 9 0)], (.cells 106 [.vec 5, .vec 6, .vec 7, .vec 8] :: .dead :: .dead :: .dead :: .dead :: oV (kRC0 b1 a1 b2 b3 b4) (((Z29 a1 b2 false []).2) ++ [(kRC4 a1)]) b3 b4 [.cells 52 [.int .i64 0, .int .i64 a1.size, .str a1.zone, .int .u64 (0 : Int)]])⟩) [0, 1, 2, 3, 4, 7, 8, 9, 10, 5] (by kernel_rfl) (by kernel_rfl) (by kernel_rfl) (by kernel_rfl)), trivial, .inl (by (try rw [hF]); kernel_rfl), by (try rw [hF]); kernel_rfl⟩
             · have hF : Zf a1 b1 b2 b3 b4 = ((⟨(0 : Int), a1.size, a1.zone, (0 : Int)⟩ : XRes), (kRC0 b1 a1 b2 b3 b4), (Z29 a1 b2 false []).2, b3, b4) := by first | exact (Z7 h0 (Z7 h1 (Z7 h2 (Z7 h3 (Z7 h4 (Z7 h5 (Z7 h6 rfl))))))) | simp only [Zf, h0, h1, h2, h3, h4, h5, h6, cond_true, cond_false]
               exact ⟨_, ((((Turn.moveC 0 0 1 7 rfl rfl rfl (by simp [hset, oM, oV])).trans (Turn.moveC 0 1 6 8 rfl rfl rfl (by simp [hset, oM, oV]))).trans (Turn.moveC 0 2 3 9 rfl rfl rfl (by simp [hset, oM, oV]))).trans (Turn.moveC 0 3 4 10 rfl rfl rfl (by simp [hset, oM, oV]))).trans (Turn.fits (p := ⟨slots 201 [(4, .ptr 9 0)], (.cells 106 [.vec 5, .vec 6, .vec 7, .vec 8] :: .dead :: .dead :: .dead :: .dead :: oV (kRC0 b1 a1 b2 b3 b4) ((Z29 a1 b2 false []).2) b3 b4 [.cells 52 [.int .i64 0, .int .i64 a1.size, .str a1.zone, .int .u64 (0 : Int)]])⟩) [0, 1, 2, 3, 4, 7, 8, 9, 10, 5] (by kernel_rfl) (by kernel_rfl) (by kernel_rfl) (by kernel_rfl)), trivial, .inl (by (try rw [hF]); kernel_rfl), by (try rw [hF]); kernel_rfl⟩
noncomputable def rD_create_fact : Fact Try.prog := factOf 108 Try.f108 (by kernel_rfl) rfl (by kernel_rfl) [.c (.ptr 0 0), .st .call] [.cells 106 [.vec 1, .vec 2, .vec 3, .vec 4], .vec false .zone, .vec false .vol, .vec false .snap, .vec false .done] false (fun t u => .agg [.int .i64 (((Zf t.2.1 u.2.1 u.2.2.1 u.2.2.2.1 u.2.2.2.2.1).1).err), .int .i64 (((Zf t.2.1 u.2.1 u.2.2.1 u.2.2.2.1 u.2.2.2.2.1).1).size), .str (((Zf t.2.1 u.2.1 u.2.2.1 u.2.2.2.1 u.2.2.2.2.1).1).zone), .int .u64 (((Zf t.2.1 u.2.1 u.2.2.1 u.2.2.2.1 u.2.2.2.2.1).1).tag)]) (fun t u => (.cells 106 [.vec 5, .vec 6, .vec 7, .vec 8] :: .dead :: .dead :: .dead :: .dead :: oV ((Zf t.2.1 u.2.1 u.2.2.1 u.2.2.2.1 u.2.2.2.2.1).2.1) ((Zf t.2.1 u.2.1 u.2.2.1 u.2.2.2.1 u.2.2.2.2.1).2.2.1) ((Zf t.2.1 u.2.1 u.2.2.1 u.2.2.2.1 u.2.2.2.2.1).2.2.2.1) ((Zf t.2.1 u.2.1 u.2.2.1 u.2.2.2.1 u.2.2.2.2.1).2.2.2.2) [])) (fun t u => [u.2.1.length ≤ 1000, u.2.2.1.length ≤ 1000, u.2.2.2.1.length ≤ 1000, u.2.2.2.2.1.length ≤ 1000, ∀ v ∈ u.2.2.1, v.nodes.length ≤ 1000, ∀ v ∈ u.2.2.1, ZHas u.2.1 v.zone])
 (nofun) (fun t u => by kernel_rfl) (fun t u => by kernel_rfl) (fun t u h => rD_createF_tr t.2.1 u.2.1 u.2.2.1 u.2.2.2.1 u.2.2.2.2.1 (h _ mS) (h _ (mN mS)) (h _ (mN (mN mS))) (h _ (mN (mN (mN mS)))) (h _ (mN (mN (mN (mN mS))))) (h _ (mN (mN (mN (mN (mN mS)))))))
end Go.Proofs.Ytpffbkbadnhmmaa
