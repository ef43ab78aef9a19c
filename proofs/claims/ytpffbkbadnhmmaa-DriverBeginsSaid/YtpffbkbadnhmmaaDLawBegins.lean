/- The law DriverBegins. -/
import Derived.Test.YtpffbkbadnhmmaaDPLI
set_option linter.unusedVariables false
set_option linter.unusedSimpArgs false
set_option maxRecDepth 100000
namespace Go.Proofs.Ytpffbkbadnhmmaa
open Go Go.Eng
noncomputable def E_w10_DriverBegins : Env := envOf (P := Try.prog) [w10_play_fact, w10_live_fact, dD_Volumes_fact, dD_Snaps_fact, w10_find_fact, dD_Seen_fact, dD_Do_fact] [] [] ckf true
def w10_DriverBeginsLF (a2 : XCall) : List XSnap → Int → Int → Int × Int
 | [], v2, v3 => (v2, v3)
 | o :: r, v2, v3 => cond (decide ((o.name) = a2.source))
  (w10_DriverBeginsLF a2 r (o.tag) (o.size))
  (w10_DriverBeginsLF a2 r v2 v3)
abbrev kBe0 (a2 : XCall) (a0_0 : Int) (a0_1 : Int) (a0_2 : Int) (a1 : List XDeed) := (w10_findF (dD_VolumesF ((dD_DoF (⟨(1 : Int), a2.target, a2.num, a2.size, a2.zone, a2.node, a2.source⟩ : XCall) ((w10_playF a0_0 a0_1 a0_2 a1).2.1) ((w10_playF a0_0 a0_1 a0_2 a1).2.2.1) ((w10_playF a0_0 a0_1 a0_2 a1).2.2.2.1) ((w10_playF a0_0 a0_1 a0_2 a1).2.2.2.2.1)).2.1) ((dD_DoF (⟨(1 : Int), a2.target, a2.num, a2.size, a2.zone, a2.node, a2.source⟩ : XCall) ((w10_playF a0_0 a0_1 a0_2 a1).2.1) ((w10_playF a0_0 a0_1 a0_2 a1).2.2.1) ((w10_playF a0_0 a0_1 a0_2 a1).2.2.2.1) ((w10_playF a0_0 a0_1 a0_2 a1).2.2.2.2.1)).2.2.1) ((dD_DoF (⟨(1 : Int), a2.target, a2.num, a2.size, a2.zone, a2.node, a2.source⟩ : XCall) ((w10_playF a0_0 a0_1 a0_2 a1).2.1) ((w10_playF a0_0 a0_1 a0_2 a1).2.2.1) ((w10_playF a0_0 a0_1 a0_2 a1).2.2.2.1) ((w10_playF a0_0 a0_1 a0_2 a1).2.2.2.2.1)).2.2.2.1) ((dD_DoF (⟨(1 : Int), a2.target, a2.num, a2.size, a2.zone, a2.node, a2.source⟩ : XCall) ((w10_playF a0_0 a0_1 a0_2 a1).2.1) ((w10_playF a0_0 a0_1 a0_2 a1).2.2.1) ((w10_playF a0_0 a0_1 a0_2 a1).2.2.2.1) ((w10_playF a0_0 a0_1 a0_2 a1).2.2.2.2.1)).2.2.2.2)) a2.target)
abbrev kBe1 (a2 : XCall) (a0_0 : Int) (a0_1 : Int) (a0_2 : Int) (a1 : List XDeed) := (dD_DoF (⟨(1 : Int), a2.target, a2.num, a2.size, a2.zone, a2.node, a2.source⟩ : XCall) ((w10_playF a0_0 a0_1 a0_2 a1).2.1) ((w10_playF a0_0 a0_1 a0_2 a1).2.2.1) ((w10_playF a0_0 a0_1 a0_2 a1).2.2.2.1) ((w10_playF a0_0 a0_1 a0_2 a1).2.2.2.2.1))
def w10_DriverBeginsLS (a0_0 : Int) (a0_1 : Int) (a0_2 : Int) (a1 : List XDeed) (a2 : XCall) (v2 : Int) (v3 : Int) (i : Nat) : St :=
 ⟨slots 154 [(5, .ptr 0 0), (11, .coll ⟨.snap, dD_SnapsF ((w10_playF a0_0 a0_1 a0_2 a1).2.1) ((w10_playF a0_0 a0_1 a0_2 a1).2.2.1) ((w10_playF a0_0 a0_1 a0_2 a1).2.2.2.1) ((w10_playF a0_0 a0_1 a0_2 a1).2.2.2.2.1)⟩), (14, .ptr 1 0), (15, .ptr 2 0), (16, .bool ((kBe0 a2 a0_0 a0_1 a0_2 a1).2)), (17, .int .u64 v2), (18, .int .i64 v3), (21, .int .i64 (i : Int))], [.cells 49 [.int .u8 1, .str a2.target, .int .u64 a2.num, .int .i64 a2.size, .str a2.zone, .str a2.node, .str a2.source], .cells 52 [.int .i64 (((kBe1 a2 a0_0 a0_1 a0_2 a1).1).err), .int .i64 (((kBe1 a2 a0_0 a0_1 a0_2 a1).1).size), .str (((kBe1 a2 a0_0 a0_1 a0_2 a1).1).zone), .int .u64 (((kBe1 a2 a0_0 a0_1 a0_2 a1).1).tag)], .cells 45 [.str (((kBe0 a2 a0_0 a0_1 a0_2 a1).1).name), .int .i64 (((kBe0 a2 a0_0 a0_1 a0_2 a1).1).size), .str (((kBe0 a2 a0_0 a0_1 a0_2 a1).1).zone), .int .u64 (((kBe0 a2 a0_0 a0_1 a0_2 a1).1).tag), .coll ⟨.str, ((kBe0 a2 a0_0 a0_1 a0_2 a1).1).nodes⟩]]⟩
abbrev kBe2 (a0_0 : Int) (a0_1 : Int) (a0_2 : Int) (a1 : List XDeed) := (dD_SnapsF ((w10_playF a0_0 a0_1 a0_2 a1).2.1) ((w10_playF a0_0 a0_1 a0_2 a1).2.2.1) ((w10_playF a0_0 a0_1 a0_2 a1).2.2.2.1) ((w10_playF a0_0 a0_1 a0_2 a1).2.2.2.2.1))
def w10_DriverBeginsLR (a0_0 : Int) (a0_1 : Int) (a0_2 : Int) (a1 : List XDeed) (a2 : XCall) (v2 : Int) (v3 : Int) (i : Nat) : RT :=
 (.ask (decide ((i : Int) < ((kBe2 a0_0 a0_1 a0_2 a1).length : Int)))
   (.need [0 ≤ (i : Int) ∧ (i : Int) < ((kBe2 a0_0 a0_1 a0_2 a1).length : Int)]
     (.ask (decide ((((kBe2 a0_0 a0_1 a0_2 a1).getD i default).name) = a2.source))
       (.need [0 ≤ (i : Int) ∧ (i : Int) < ((kBe2 a0_0 a0_1 a0_2 a1).length : Int), 0 ≤ (i : Int) ∧ (i : Int) < ((kBe2 a0_0 a0_1 a0_2 a1).length : Int)]
         (.leaf .normal ⟨slots 154 [(5, .ptr 0 0), (11, .coll ⟨.snap, dD_SnapsF ((w10_playF a0_0 a0_1 a0_2 a1).2.1) ((w10_playF a0_0 a0_1 a0_2 a1).2.2.1) ((w10_playF a0_0 a0_1 a0_2 a1).2.2.2.1) ((w10_playF a0_0 a0_1 a0_2 a1).2.2.2.2.1)⟩), (14, .ptr 1 0), (15, .ptr 2 0), (16, .bool ((kBe0 a2 a0_0 a0_1 a0_2 a1).2)), (17, .int .u64 (((kBe2 a0_0 a0_1 a0_2 a1).getD i default).tag)), (18, .int .i64 (((kBe2 a0_0 a0_1 a0_2 a1).getD i default).size)), (21, .int .i64 (IntKind.i64.wrap ((i : Int) + (1 : Int))))], [.cells 49 [.int .u8 1, .str a2.target, .int .u64 a2.num, .int .i64 a2.size, .str a2.zone, .str a2.node, .str a2.source], .cells 52 [.int .i64 (((kBe1 a2 a0_0 a0_1 a0_2 a1).1).err), .int .i64 (((kBe1 a2 a0_0 a0_1 a0_2 a1).1).size), .str (((kBe1 a2 a0_0 a0_1 a0_2 a1).1).zone), .int .u64 (((kBe1 a2 a0_0 a0_1 a0_2 a1).1).tag)], .cells 45 [.str (((kBe0 a2 a0_0 a0_1 a0_2 a1).1).name), .int .i64 (((kBe0 a2 a0_0 a0_1 a0_2 a1).1).size), .str (((kBe0 a2 a0_0 a0_1 a0_2 a1).1).zone), .int .u64 (((kBe0 a2 a0_0 a0_1 a0_2 a1).1).tag), .coll ⟨.str, ((kBe0 a2 a0_0 a0_1 a0_2 a1).1).nodes⟩]]⟩ []))
       (.leaf .normal ⟨slots 154 [(5, .ptr 0 0), (11, .coll ⟨.snap, dD_SnapsF ((w10_playF a0_0 a0_1 a0_2 a1).2.1) ((w10_playF a0_0 a0_1 a0_2 a1).2.2.1) ((w10_playF a0_0 a0_1 a0_2 a1).2.2.2.1) ((w10_playF a0_0 a0_1 a0_2 a1).2.2.2.2.1)⟩), (14, .ptr 1 0), (15, .ptr 2 0), (16, .bool ((kBe0 a2 a0_0 a0_1 a0_2 a1).2)), (17, .int .u64 v2), (18, .int .i64 v3), (21, .int .i64 (IntKind.i64.wrap ((i : Int) + (1 : Int))))], [.cells 49 [.int .u8 1, .str a2.target, .int .u64 a2.num, .int .i64 a2.size, .str a2.zone, .str a2.node, .str a2.source], .cells 52 [.int .i64 (((kBe1 a2 a0_0 a0_1 a0_2 a1).1).err), .int .i64 (((kBe1 a2 a0_0 a0_1 a0_2 a1).1).size), .str (((kBe1 a2 a0_0 a0_1 a0_2 a1).1).zone), .int .u64 (((kBe1 a2 a0_0 a0_1 a0_2 a1).1).tag)], .cells 45 [.str (((kBe0 a2 a0_0 a0_1 a0_2 a1).1).name), .int .i64 (((kBe0 a2 a0_0 a0_1 a0_2 a1).1).size), .str (((kBe0 a2 a0_0 a0_1 a0_2 a1).1).zone), .int .u64 (((kBe0 a2 a0_0 a0_1 a0_2 a1).1).tag), .coll ⟨.str, ((kBe0 a2 a0_0 a0_1 a0_2 a1).1).nodes⟩]]⟩ [])))
   (.leaf (.exit 0) ⟨slots 154 [(5, .ptr 0 0), (14, .ptr 1 0), (15, .ptr 2 0), (16, .bool ((kBe0 a2 a0_0 a0_1 a0_2 a1).2)), (17, .int .u64 v2), (18, .int .i64 v3)], [.cells 49 [.int .u8 1, .str a2.target, .int .u64 a2.num, .int .i64 a2.size, .str a2.zone, .str a2.node, .str a2.source], .cells 52 [.int .i64 (((kBe1 a2 a0_0 a0_1 a0_2 a1).1).err), .int .i64 (((kBe1 a2 a0_0 a0_1 a0_2 a1).1).size), .str (((kBe1 a2 a0_0 a0_1 a0_2 a1).1).zone), .int .u64 (((kBe1 a2 a0_0 a0_1 a0_2 a1).1).tag)], .cells 45 [.str (((kBe0 a2 a0_0 a0_1 a0_2 a1).1).name), .int .i64 (((kBe0 a2 a0_0 a0_1 a0_2 a1).1).size), .str (((kBe0 a2 a0_0 a0_1 a0_2 a1).1).zone), .int .u64 (((kBe0 a2 a0_0 a0_1 a0_2 a1).1).tag), .coll ⟨.str, ((kBe0 a2 a0_0 a0_1 a0_2 a1).1).nodes⟩]]⟩ []))
def w10_DriverBeginsLT (a0_0 : Int) (a0_1 : Int) (a0_2 : Int) (a1 : List XDeed) (a2 : XCall) (v2 : Int) (v3 : Int) (i : Nat) : Tree :=
 .leaf (.exit 0) ⟨slots 154 [(5, .ptr 0 0), (14, .ptr 1 0), (15, .ptr 2 0), (16, .bool ((kBe0 a2 a0_0 a0_1 a0_2 a1).2)), (17, .int .u64 ((w10_DriverBeginsLF a2 ((kBe2 a0_0 a0_1 a0_2 a1).drop i) v2 v3).1)), (18, .int .i64 ((w10_DriverBeginsLF a2 ((kBe2 a0_0 a0_1 a0_2 a1).drop i) v2 v3).2))], [.cells 49 [.int .u8 1, .str a2.target, .int .u64 a2.num, .int .i64 a2.size, .str a2.zone, .str a2.node, .str a2.source], .cells 52 [.int .i64 (((kBe1 a2 a0_0 a0_1 a0_2 a1).1).err), .int .i64 (((kBe1 a2 a0_0 a0_1 a0_2 a1).1).size), .str (((kBe1 a2 a0_0 a0_1 a0_2 a1).1).zone), .int .u64 (((kBe1 a2 a0_0 a0_1 a0_2 a1).1).tag)], .cells 45 [.str (((kBe0 a2 a0_0 a0_1 a0_2 a1).1).name), .int .i64 (((kBe0 a2 a0_0 a0_1 a0_2 a1).1).size), .str (((kBe0 a2 a0_0 a0_1 a0_2 a1).1).zone), .int .u64 (((kBe0 a2 a0_0 a0_1 a0_2 a1).1).tag), .coll ⟨.str, ((kBe0 a2 a0_0 a0_1 a0_2 a1).1).nodes⟩]]⟩
theorem w10_DriverBeginsL_loop (a0_0 : Int) (a0_1 : Int) (a0_2 : Int) (a1 : List XDeed) (a2 : XCall) (hp0 : U8 a0_0) (hp1 : U8 a0_1) (hp2 : U8 a0_2) (hp3 : ∀ x ∈ a1, CS x.c) (hp4 : CS a2) (hlen : (kBe2 a0_0 a0_1 a0_2 a1).length < 4611686018427387904) (z : { z : Int × Int × Nat // z.2.2 ≤ (kBe2 a0_0 a0_1 a0_2 a1).length }) (Q : Exit → St → Prop) (h : (w10_DriverBeginsLT a0_0 a0_1 a0_2 a1 a2 z.1.1 z.1.2.1 z.1.2.2).All Q) : Tr Try.prog 0 (.loop (loopAt Try.f7 0)) (w10_DriverBeginsLS a0_0 a0_1 a0_2 a1 a2 z.1.1 z.1.2.1 z.1.2.2) Q := by
 refine Tr_loopT (kok _ _ _ _ _ _) (E := E_w10_DriverBegins) (ι := { z : Int × Int × Nat // z.2.2 ≤ (kBe2 a0_0 a0_1 a0_2 a1).length }) 60 0 (fun _ => noLoops) (fun z => w10_DriverBeginsLS a0_0 a0_1 a0_2 a1 a2 z.1.1 z.1.2.1 z.1.2.2) (fun z => w10_DriverBeginsLT a0_0 a0_1 a0_2 a1 a2 z.1.1 z.1.2.1 z.1.2.2) (fun z => w10_DriverBeginsLR a0_0 a0_1 a0_2 a1 a2 z.1.1 z.1.2.1 z.1.2.2) (fun z => (kBe2 a0_0 a0_1 a0_2 a1).length - z.1.2.2) (fun _ => LoopsOk.none) (fun z => by obtain ⟨⟨v2, v3, i⟩, hi⟩ := z; kernel_rfl) (fun z => by obtain ⟨⟨v2, v3, i⟩, hi⟩ := z; kernel_rfl) (fun z => by obtain ⟨⟨v2, v3, i⟩, hi⟩ := z; kernel_rfl) ?_ z Q h
 rintro ⟨⟨v2, v3, i⟩, hi⟩ Q hT
 replace hT : (w10_DriverBeginsLT a0_0 a0_1 a0_2 a1 a2 v2 v3 i).All Q := hT
 replace hi : i ≤ (kBe2 a0_0 a0_1 a0_2 a1).length := hi
 show (w10_DriverBeginsLR a0_0 a0_1 a0_2 a1 a2 v2 v3 i).All _
 unfold w10_DriverBeginsLR
 refine ⟨fun h0 => ?_, fun h0 => ?_⟩
 · have hlt : i < (kBe2 a0_0 a0_1 a0_2 a1).length := by simpa using h0
   have hd := drop_getD hlt
   have hw := wrap_succ (i := i) (by omega)
   refine ⟨need_cons (by first | assumption | omega | ((try intro _); (try simp only [decide_eq_true_eq, decide_eq_false_iff_not, Bool.cond_false_right, Bool.cond_true_right, Bool.cond_true_left, Bool.cond_false_left, Bool.and_eq_true, Bool.or_eq_true, Bool.not_eq_true', bytesLim, maxLen, List.length_cons, List.length_nil, List.length_append, byteSize_lit] at *); omega)) (need_nil), ?_⟩
   refine ⟨fun h1 => ?_, fun h1 => ?_⟩
   · refine ⟨(by (iterate 2 refine need_cons (by first | assumption | omega | ((try intro _); (try simp only [decide_eq_true_eq, decide_eq_false_iff_not, Bool.cond_false_right, Bool.cond_true_right, Bool.cond_true_left, Bool.cond_false_left, Bool.and_eq_true, Bool.or_eq_true, Bool.not_eq_true', bytesLim, maxLen, List.length_cons, List.length_nil, List.length_append, byteSize_lit] at *); omega)) ?_); exact need_nil), ?_⟩
     have hF : w10_DriverBeginsLF a2 ((kBe2 a0_0 a0_1 a0_2 a1).drop i) v2 v3 = w10_DriverBeginsLF a2 ((kBe2 a0_0 a0_1 a0_2 a1).drop (i + 1)) (((kBe2 a0_0 a0_1 a0_2 a1).getD i default).tag) (((kBe2 a0_0 a0_1 a0_2 a1).getD i default).size) := by rw [hd]; first | exact (cond_t h1 rfl) | simp only [w10_DriverBeginsLF, h0, h1, cond_true, cond_false]
     refine ⟨⟨((((kBe2 a0_0 a0_1 a0_2 a1).getD i default).tag), (((kBe2 a0_0 a0_1 a0_2 a1).getD i default).size), (i + 1)), by show (i + 1) ≤ (kBe2 a0_0 a0_1 a0_2 a1).length; omega⟩, by show (kBe2 a0_0 a0_1 a0_2 a1).length - (i + 1) < (kBe2 a0_0 a0_1 a0_2 a1).length - i; omega, ?_, ?_⟩
     · show _ = w10_DriverBeginsLS a0_0 a0_1 a0_2 a1 a2 (((kBe2 a0_0 a0_1 a0_2 a1).getD i default).tag) (((kBe2 a0_0 a0_1 a0_2 a1).getD i default).size) (i + 1)
       unfold w10_DriverBeginsLS
       simp only [hw]
     · show (w10_DriverBeginsLT a0_0 a0_1 a0_2 a1 a2 (((kBe2 a0_0 a0_1 a0_2 a1).getD i default).tag) (((kBe2 a0_0 a0_1 a0_2 a1).getD i default).size) (i + 1)).All Q
       unfold w10_DriverBeginsLT at hT ⊢
       rw [hF] at hT
       exact hT
   · have hF : w10_DriverBeginsLF a2 ((kBe2 a0_0 a0_1 a0_2 a1).drop i) v2 v3 = w10_DriverBeginsLF a2 ((kBe2 a0_0 a0_1 a0_2 a1).drop (i + 1)) v2 v3 := by rw [hd]; first | exact (cond_f h1 rfl) | simp only [w10_DriverBeginsLF, h0, h1, cond_true, cond_false]
     refine ⟨⟨(v2, v3, (i + 1)), by show (i + 1) ≤ (kBe2 a0_0 a0_1 a0_2 a1).length; omega⟩, by show (kBe2 a0_0 a0_1 a0_2 a1).length - (i + 1) < (kBe2 a0_0 a0_1 a0_2 a1).length - i; omega, ?_, ?_⟩
     · show _ = w10_DriverBeginsLS a0_0 a0_1 a0_2 a1 a2 v2 v3 (i + 1)
       unfold w10_DriverBeginsLS
       simp only [hw]
     · show (w10_DriverBeginsLT a0_0 a0_1 a0_2 a1 a2 v2 v3 (i + 1)).All Q
       unfold w10_DriverBeginsLT at hT ⊢
       rw [hF] at hT
       exact hT
 · have hge : ¬ i < (kBe2 a0_0 a0_1 a0_2 a1).length := by simpa using h0
   have hd : (kBe2 a0_0 a0_1 a0_2 a1).drop i = [] := List.drop_eq_nil_of_le (by omega)
   have hF : w10_DriverBeginsLF a2 ((kBe2 a0_0 a0_1 a0_2 a1).drop i) v2 v3 = (v2, v3) := by rw [hd]; first | exact rfl | simp only [w10_DriverBeginsLF, h0, cond_true, cond_false]
   unfold w10_DriverBeginsLT at hT
   rw [hF] at hT
   exact hT
def w10_DriverBeginsL1F (a2 : XCall) : List XSnap → Int → Int → Int × Int
 | [], v1_2, v1_3 => (v1_2, v1_3)
 | o1 :: r, v1_2, v1_3 => cond (decide ((o1.name) = a2.source))
  (w10_DriverBeginsL1F a2 r (o1.tag) (o1.size))
  (w10_DriverBeginsL1F a2 r v1_2 v1_3)
def w10_DriverBeginsL1S (a0_0 : Int) (a0_1 : Int) (a0_2 : Int) (a1 : List XDeed) (a2 : XCall) (v1_2 : Int) (v1_3 : Int) (i1 : Nat) : St :=
 ⟨slots 154 [(5, .ptr 0 0), (11, .coll ⟨.snap, dD_SnapsF ((w10_playF a0_0 a0_1 a0_2 a1).2.1) ((w10_playF a0_0 a0_1 a0_2 a1).2.2.1) ((w10_playF a0_0 a0_1 a0_2 a1).2.2.2.1) ((w10_playF a0_0 a0_1 a0_2 a1).2.2.2.2.1)⟩), (14, .ptr 1 0), (15, .ptr 2 0), (16, .bool ((kBe0 a2 a0_0 a0_1 a0_2 a1).2)), (17, .int .u64 v1_2), (18, .int .i64 v1_3), (21, .int .i64 (i1 : Int))], [.cells 49 [.int .u8 1, .str a2.target, .int .u64 a2.num, .int .i64 a2.size, .str a2.zone, .str a2.node, .str a2.source], .cells 52 [.int .i64 (((kBe1 a2 a0_0 a0_1 a0_2 a1).1).err), .int .i64 (((kBe1 a2 a0_0 a0_1 a0_2 a1).1).size), .str (((kBe1 a2 a0_0 a0_1 a0_2 a1).1).zone), .int .u64 (((kBe1 a2 a0_0 a0_1 a0_2 a1).1).tag)], .cells 45 [.str (((kBe0 a2 a0_0 a0_1 a0_2 a1).1).name), .int .i64 (((kBe0 a2 a0_0 a0_1 a0_2 a1).1).size), .str (((kBe0 a2 a0_0 a0_1 a0_2 a1).1).zone), .int .u64 (((kBe0 a2 a0_0 a0_1 a0_2 a1).1).tag), .coll ⟨.str, ((kBe0 a2 a0_0 a0_1 a0_2 a1).1).nodes⟩]]⟩
def w10_DriverBeginsL1R (a0_0 : Int) (a0_1 : Int) (a0_2 : Int) (a1 : List XDeed) (a2 : XCall) (v1_2 : Int) (v1_3 : Int) (i1 : Nat) : RT :=
 (.ask (decide ((i1 : Int) < ((kBe2 a0_0 a0_1 a0_2 a1).length : Int)))
   (.need [0 ≤ (i1 : Int) ∧ (i1 : Int) < ((kBe2 a0_0 a0_1 a0_2 a1).length : Int)]
     (.ask (decide ((((kBe2 a0_0 a0_1 a0_2 a1).getD i1 default).name) = a2.source))
       (.need [0 ≤ (i1 : Int) ∧ (i1 : Int) < ((kBe2 a0_0 a0_1 a0_2 a1).length : Int), 0 ≤ (i1 : Int) ∧ (i1 : Int) < ((kBe2 a0_0 a0_1 a0_2 a1).length : Int)]
         (.leaf .normal ⟨slots 154 [(5, .ptr 0 0), (11, .coll ⟨.snap, dD_SnapsF ((w10_playF a0_0 a0_1 a0_2 a1).2.1) ((w10_playF a0_0 a0_1 a0_2 a1).2.2.1) ((w10_playF a0_0 a0_1 a0_2 a1).2.2.2.1) ((w10_playF a0_0 a0_1 a0_2 a1).2.2.2.2.1)⟩), (14, .ptr 1 0), (15, .ptr 2 0), (16, .bool ((kBe0 a2 a0_0 a0_1 a0_2 a1).2)), (17, .int .u64 (((kBe2 a0_0 a0_1 a0_2 a1).getD i1 default).tag)), (18, .int .i64 (((kBe2 a0_0 a0_1 a0_2 a1).getD i1 default).size)), (21, .int .i64 (IntKind.i64.wrap ((i1 : Int) + (1 : Int))))], [.cells 49 [.int .u8 1, .str a2.target, .int .u64 a2.num, .int .i64 a2.size, .str a2.zone, .str a2.node, .str a2.source], .cells 52 [.int .i64 (((kBe1 a2 a0_0 a0_1 a0_2 a1).1).err), .int .i64 (((kBe1 a2 a0_0 a0_1 a0_2 a1).1).size), .str (((kBe1 a2 a0_0 a0_1 a0_2 a1).1).zone), .int .u64 (((kBe1 a2 a0_0 a0_1 a0_2 a1).1).tag)], .cells 45 [.str (((kBe0 a2 a0_0 a0_1 a0_2 a1).1).name), .int .i64 (((kBe0 a2 a0_0 a0_1 a0_2 a1).1).size), .str (((kBe0 a2 a0_0 a0_1 a0_2 a1).1).zone), .int .u64 (((kBe0 a2 a0_0 a0_1 a0_2 a1).1).tag), .coll ⟨.str, ((kBe0 a2 a0_0 a0_1 a0_2 a1).1).nodes⟩]]⟩ []))
       (.leaf .normal ⟨slots 154 [(5, .ptr 0 0), (11, .coll ⟨.snap, dD_SnapsF ((w10_playF a0_0 a0_1 a0_2 a1).2.1) ((w10_playF a0_0 a0_1 a0_2 a1).2.2.1) ((w10_playF a0_0 a0_1 a0_2 a1).2.2.2.1) ((w10_playF a0_0 a0_1 a0_2 a1).2.2.2.2.1)⟩), (14, .ptr 1 0), (15, .ptr 2 0), (16, .bool ((kBe0 a2 a0_0 a0_1 a0_2 a1).2)), (17, .int .u64 v1_2), (18, .int .i64 v1_3), (21, .int .i64 (IntKind.i64.wrap ((i1 : Int) + (1 : Int))))], [.cells 49 [.int .u8 1, .str a2.target, .int .u64 a2.num, .int .i64 a2.size, .str a2.zone, .str a2.node, .str a2.source], .cells 52 [.int .i64 (((kBe1 a2 a0_0 a0_1 a0_2 a1).1).err), .int .i64 (((kBe1 a2 a0_0 a0_1 a0_2 a1).1).size), .str (((kBe1 a2 a0_0 a0_1 a0_2 a1).1).zone), .int .u64 (((kBe1 a2 a0_0 a0_1 a0_2 a1).1).tag)], .cells 45 [.str (((kBe0 a2 a0_0 a0_1 a0_2 a1).1).name), .int .i64 (((kBe0 a2 a0_0 a0_1 a0_2 a1).1).size), .str (((kBe0 a2 a0_0 a0_1 a0_2 a1).1).zone), .int .u64 (((kBe0 a2 a0_0 a0_1 a0_2 a1).1).tag), .coll ⟨.str, ((kBe0 a2 a0_0 a0_1 a0_2 a1).1).nodes⟩]]⟩ [])))
   (.leaf (.exit 0) ⟨slots 154 [(5, .ptr 0 0), (14, .ptr 1 0), (15, .ptr 2 0), (16, .bool ((kBe0 a2 a0_0 a0_1 a0_2 a1).2)), (17, .int .u64 v1_2), (18, .int .i64 v1_3)], [.cells 49 [.int .u8 1, .str a2.target, .int .u64 a2.num, .int .i64 a2.size, .str a2.zone, .str a2.node, .str a2.source], .cells 52 [.int .i64 (((kBe1 a2 a0_0 a0_1 a0_2 a1).1).err), .int .i64 (((kBe1 a2 a0_0 a0_1 a0_2 a1).1).size), .str (((kBe1 a2 a0_0 a0_1 a0_2 a1).1).zone), .int .u64 (((kBe1 a2 a0_0 a0_1 a0_2 a1).1).tag)], .cells 45 [.str (((kBe0 a2 a0_0 a0_1 a0_2 a1).1).name), .int .i64 (((kBe0 a2 a0_0 a0_1 a0_2 a1).1).size), .str (((kBe0 a2 a0_0 a0_1 a0_2 a1).1).zone), .int .u64 (((kBe0 a2 a0_0 a0_1 a0_2 a1).1).tag), .coll ⟨.str, ((kBe0 a2 a0_0 a0_1 a0_2 a1).1).nodes⟩]]⟩ []))
def w10_DriverBeginsL1T (a0_0 : Int) (a0_1 : Int) (a0_2 : Int) (a1 : List XDeed) (a2 : XCall) (v1_2 : Int) (v1_3 : Int) (i1 : Nat) : Tree :=
 .leaf (.exit 0) ⟨slots 154 [(5, .ptr 0 0), (14, .ptr 1 0), (15, .ptr 2 0), (16, .bool ((kBe0 a2 a0_0 a0_1 a0_2 a1).2)), (17, .int .u64 ((w10_DriverBeginsL1F a2 ((kBe2 a0_0 a0_1 a0_2 a1).drop i1) v1_2 v1_3).1)), (18, .int .i64 ((w10_DriverBeginsL1F a2 ((kBe2 a0_0 a0_1 a0_2 a1).drop i1) v1_2 v1_3).2))], [.cells 49 [.int .u8 1, .str a2.target, .int .u64 a2.num, .int .i64 a2.size, .str a2.zone, .str a2.node, .str a2.source], .cells 52 [.int .i64 (((kBe1 a2 a0_0 a0_1 a0_2 a1).1).err), .int .i64 (((kBe1 a2 a0_0 a0_1 a0_2 a1).1).size), .str (((kBe1 a2 a0_0 a0_1 a0_2 a1).1).zone), .int .u64 (((kBe1 a2 a0_0 a0_1 a0_2 a1).1).tag)], .cells 45 [.str (((kBe0 a2 a0_0 a0_1 a0_2 a1).1).name), .int .i64 (((kBe0 a2 a0_0 a0_1 a0_2 a1).1).size), .str (((kBe0 a2 a0_0 a0_1 a0_2 a1).1).zone), .int .u64 (((kBe0 a2 a0_0 a0_1 a0_2 a1).1).tag), .coll ⟨.str, ((kBe0 a2 a0_0 a0_1 a0_2 a1).1).nodes⟩]]⟩
theorem w10_DriverBeginsL1_loop (a0_0 : Int) (a0_1 : Int) (a0_2 : Int) (a1 : List XDeed) (a2 : XCall) (hp0 : U8 a0_0) (hp1 : U8 a0_1) (hp2 : U8 a0_2) (hp3 : ∀ x ∈ a1, CS x.c) (hp4 : CS a2) (hlen : (kBe2 a0_0 a0_1 a0_2 a1).length < 4611686018427387904) (z : { z : Int × Int × Nat // z.2.2 ≤ (kBe2 a0_0 a0_1 a0_2 a1).length }) (Q : Exit → St → Prop) (h : (w10_DriverBeginsL1T a0_0 a0_1 a0_2 a1 a2 z.1.1 z.1.2.1 z.1.2.2).All Q) : Tr Try.prog 0 (.loop (loopAt Try.f7 0)) (w10_DriverBeginsL1S a0_0 a0_1 a0_2 a1 a2 z.1.1 z.1.2.1 z.1.2.2) Q := by
 refine Tr_loopT (kok _ _ _ _ _ _) (E := E_w10_DriverBegins) (ι := { z : Int × Int × Nat // z.2.2 ≤ (kBe2 a0_0 a0_1 a0_2 a1).length }) 60 0 (fun _ => noLoops) (fun z => w10_DriverBeginsL1S a0_0 a0_1 a0_2 a1 a2 z.1.1 z.1.2.1 z.1.2.2) (fun z => w10_DriverBeginsL1T a0_0 a0_1 a0_2 a1 a2 z.1.1 z.1.2.1 z.1.2.2) (fun z => w10_DriverBeginsL1R a0_0 a0_1 a0_2 a1 a2 z.1.1 z.1.2.1 z.1.2.2) (fun z => (kBe2 a0_0 a0_1 a0_2 a1).length - z.1.2.2) (fun _ => LoopsOk.none) (fun z => by obtain ⟨⟨v1_2, v1_3, i1⟩, hi⟩ := z; kernel_rfl) (fun z => by obtain ⟨⟨v1_2, v1_3, i1⟩, hi⟩ := z; kernel_rfl) (fun z => by obtain ⟨⟨v1_2, v1_3, i1⟩, hi⟩ := z; kernel_rfl) ?_ z Q h
 rintro ⟨⟨v1_2, v1_3, i1⟩, hi⟩ Q hT
 replace hT : (w10_DriverBeginsL1T a0_0 a0_1 a0_2 a1 a2 v1_2 v1_3 i1).All Q := hT
 replace hi : i1 ≤ (kBe2 a0_0 a0_1 a0_2 a1).length := hi
 show (w10_DriverBeginsL1R a0_0 a0_1 a0_2 a1 a2 v1_2 v1_3 i1).All _
 unfold w10_DriverBeginsL1R
 refine ⟨fun h0 => ?_, fun h0 => ?_⟩
 · have hlt : i1 < (kBe2 a0_0 a0_1 a0_2 a1).length := by simpa using h0
   have hd := drop_getD hlt
   have hw := wrap_succ (i := i1) (by omega)
   refine ⟨need_cons (by first | assumption | omega | ((try intro _); (try simp only [decide_eq_true_eq, decide_eq_false_iff_not, Bool.cond_false_right, Bool.cond_true_right, Bool.cond_true_left, Bool.cond_false_left, Bool.and_eq_true, Bool.or_eq_true, Bool.not_eq_true', bytesLim, maxLen, List.length_cons, List.length_nil, List.length_append, byteSize_lit] at *); omega)) (need_nil), ?_⟩
   refine ⟨fun h1 => ?_, fun h1 => ?_⟩
   · refine ⟨(by (iterate 2 refine need_cons (by first | assumption | omega | ((try intro _); (try simp only [decide_eq_true_eq, decide_eq_false_iff_not, Bool.cond_false_right, Bool.cond_true_right, Bool.cond_true_left, Bool.cond_false_left, Bool.and_eq_true, Bool.or_eq_true, Bool.not_eq_true', bytesLim, maxLen, List.length_cons, List.length_nil, List.length_append, byteSize_lit] at *); omega)) ?_); exact need_nil), ?_⟩
     have hF : w10_DriverBeginsL1F a2 ((kBe2 a0_0 a0_1 a0_2 a1).drop i1) v1_2 v1_3 = w10_DriverBeginsL1F a2 ((kBe2 a0_0 a0_1 a0_2 a1).drop (i1 + 1)) (((kBe2 a0_0 a0_1 a0_2 a1).getD i1 default).tag) (((kBe2 a0_0 a0_1 a0_2 a1).getD i1 default).size) := by rw [hd]; first | exact (cond_t h1 rfl) | simp only [w10_DriverBeginsL1F, h0, h1, cond_true, cond_false]
     refine ⟨⟨((((kBe2 a0_0 a0_1 a0_2 a1).getD i1 default).tag), (((kBe2 a0_0 a0_1 a0_2 a1).getD i1 default).size), (i1 + 1)), by show (i1 + 1) ≤ (kBe2 a0_0 a0_1 a0_2 a1).length; omega⟩, by show (kBe2 a0_0 a0_1 a0_2 a1).length - (i1 + 1) < (kBe2 a0_0 a0_1 a0_2 a1).length - i1; omega, ?_, ?_⟩
     · show _ = w10_DriverBeginsL1S a0_0 a0_1 a0_2 a1 a2 (((kBe2 a0_0 a0_1 a0_2 a1).getD i1 default).tag) (((kBe2 a0_0 a0_1 a0_2 a1).getD i1 default).size) (i1 + 1)
       unfold w10_DriverBeginsL1S
       simp only [hw]
     · show (w10_DriverBeginsL1T a0_0 a0_1 a0_2 a1 a2 (((kBe2 a0_0 a0_1 a0_2 a1).getD i1 default).tag) (((kBe2 a0_0 a0_1 a0_2 a1).getD i1 default).size) (i1 + 1)).All Q
       unfold w10_DriverBeginsL1T at hT ⊢
       rw [hF] at hT
       exact hT
   · have hF : w10_DriverBeginsL1F a2 ((kBe2 a0_0 a0_1 a0_2 a1).drop i1) v1_2 v1_3 = w10_DriverBeginsL1F a2 ((kBe2 a0_0 a0_1 a0_2 a1).drop (i1 + 1)) v1_2 v1_3 := by rw [hd]; first | exact (cond_f h1 rfl) | simp only [w10_DriverBeginsL1F, h0, h1, cond_true, cond_false]
     refine ⟨⟨(v1_2, v1_3, (i1 + 1)), by show (i1 + 1) ≤ (kBe2 a0_0 a0_1 a0_2 a1).length; omega⟩, by show (kBe2 a0_0 a0_1 a0_2 a1).length - (i1 + 1) < (kBe2 a0_0 a0_1 a0_2 a1).length - i1; omega, ?_, ?_⟩
     · show _ = w10_DriverBeginsL1S a0_0 a0_1 a0_2 a1 a2 v1_2 v1_3 (i1 + 1)
       unfold w10_DriverBeginsL1S
       simp only [hw]
     · show (w10_DriverBeginsL1T a0_0 a0_1 a0_2 a1 a2 v1_2 v1_3 (i1 + 1)).All Q
       unfold w10_DriverBeginsL1T at hT ⊢
       rw [hF] at hT
       exact hT
 · have hge : ¬ i1 < (kBe2 a0_0 a0_1 a0_2 a1).length := by simpa using h0
   have hd : (kBe2 a0_0 a0_1 a0_2 a1).drop i1 = [] := List.drop_eq_nil_of_le (by omega)
   have hF : w10_DriverBeginsL1F a2 ((kBe2 a0_0 a0_1 a0_2 a1).drop i1) v1_2 v1_3 = (v1_2, v1_3) := by rw [hd]; first | exact rfl | simp only [w10_DriverBeginsL1F, h0, cond_true, cond_false]
   unfold w10_DriverBeginsL1T at hT
   rw [hF] at hT
   exact hT
abbrev kBe3 (a0_0 : Int) (a0_1 : Int) (a0_2 : Int) (a1 : List XDeed) := (dD_VolumesF ((w10_playF a0_0 a0_1 a0_2 a1).2.1) ((w10_playF a0_0 a0_1 a0_2 a1).2.2.1) ((w10_playF a0_0 a0_1 a0_2 a1).2.2.2.1) ((w10_playF a0_0 a0_1 a0_2 a1).2.2.2.2.1))
abbrev kBe4 (a2 : XCall) (a0_0 : Int) (a0_1 : Int) (a0_2 : Int) (a1 : List XDeed) := (cond (cond (cond (cond (cond (cond ((kBe0 a2 a0_0 a0_1 a0_2 a1).2) ((((kBe0 a2 a0_0 a0_1 a0_2 a1).1).tag) == ((w10_DriverBeginsLF a2 (kBe2 a0_0 a0_1 a0_2 a1) (((w10_findF (kBe3 a0_0 a0_1 a0_2 a1) a2.source).1).tag) (((w10_findF (kBe3 a0_0 a0_1 a0_2 a1) a2.source).1).size)).1)) false) ((((kBe0 a2 a0_0 a0_1 a0_2 a1).1).size) == a2.size) false) (decide ((((kBe0 a2 a0_0 a0_1 a0_2 a1).1).size) ≥ ((w10_DriverBeginsLF a2 (kBe2 a0_0 a0_1 a0_2 a1) (((w10_findF (kBe3 a0_0 a0_1 a0_2 a1) a2.source).1).tag) (((w10_findF (kBe3 a0_0 a0_1 a0_2 a1) a2.source).1).size)).2))) false) (decide ((((kBe0 a2 a0_0 a0_1 a0_2 a1).1).zone) = a2.zone)) false) (((((kBe0 a2 a0_0 a0_1 a0_2 a1).1).nodes).length : Int) == (0 : Int)) false) (((((kBe1 a2 a0_0 a0_1 a0_2 a1).1).err) == (0 : Int)) && (((((kBe1 a2 a0_0 a0_1 a0_2 a1).1).size) == (((kBe0 a2 a0_0 a0_1 a0_2 a1).1).size)) && ((decide ((((kBe1 a2 a0_0 a0_1 a0_2 a1).1).zone) = (((kBe0 a2 a0_0 a0_1 a0_2 a1).1).zone))) && ((((kBe1 a2 a0_0 a0_1 a0_2 a1).1).tag) == ((w10_DriverBeginsLF a2 (kBe2 a0_0 a0_1 a0_2 a1) (((w10_findF (kBe3 a0_0 a0_1 a0_2 a1) a2.source).1).tag) (((w10_findF (kBe3 a0_0 a0_1 a0_2 a1) a2.source).1).size)).1))))) false)
abbrev kBe5 (a2 : XCall) (a0_0 : Int) (a0_1 : Int) (a0_2 : Int) (a1 : List XDeed) := (cond (cond (cond (cond (cond (cond ((kBe0 a2 a0_0 a0_1 a0_2 a1).2) ((((kBe0 a2 a0_0 a0_1 a0_2 a1).1).tag) == ((w10_DriverBeginsL1F a2 (kBe2 a0_0 a0_1 a0_2 a1) (0 : Int) (0 : Int)).1)) false) ((((kBe0 a2 a0_0 a0_1 a0_2 a1).1).size) == a2.size) false) (decide ((((kBe0 a2 a0_0 a0_1 a0_2 a1).1).size) ≥ ((w10_DriverBeginsL1F a2 (kBe2 a0_0 a0_1 a0_2 a1) (0 : Int) (0 : Int)).2))) false) (decide ((((kBe0 a2 a0_0 a0_1 a0_2 a1).1).zone) = a2.zone)) false) (((((kBe0 a2 a0_0 a0_1 a0_2 a1).1).nodes).length : Int) == (0 : Int)) false) (((((kBe1 a2 a0_0 a0_1 a0_2 a1).1).err) == (0 : Int)) && (((((kBe1 a2 a0_0 a0_1 a0_2 a1).1).size) == (((kBe0 a2 a0_0 a0_1 a0_2 a1).1).size)) && ((decide ((((kBe1 a2 a0_0 a0_1 a0_2 a1).1).zone) = (((kBe0 a2 a0_0 a0_1 a0_2 a1).1).zone))) && ((((kBe1 a2 a0_0 a0_1 a0_2 a1).1).tag) == ((w10_DriverBeginsL1F a2 (kBe2 a0_0 a0_1 a0_2 a1) (0 : Int) (0 : Int)).1))))) false)
def w10_DriverBeginsF (a0_0 : Int) (a0_1 : Int) (a0_2 : Int) (a1 : List XDeed) (a2 : XCall) : Bool :=
 cond (cond (!w10_liveF) true (!((w10_playF a0_0 a0_1 a0_2 a1).1)))
  false
  (cond (cond ((w10_findF (kBe3 a0_0 a0_1 a0_2 a1) a2.target).2) true (decide ((dD_SeenF (1 : Int) a2.target ((w10_playF a0_0 a0_1 a0_2 a1).2.1) ((w10_playF a0_0 a0_1 a0_2 a1).2.2.1) ((w10_playF a0_0 a0_1 a0_2 a1).2.2.2.1) ((w10_playF a0_0 a0_1 a0_2 a1).2.2.2.2.1)) ≥ a2.num)))
    true
    (cond (!((((kBe1 a2 a0_0 a0_1 a0_2 a1).1).err) == (0 : Int)))
      (!((kBe0 a2 a0_0 a0_1 a0_2 a1).2))
      (cond ((w10_findF (kBe3 a0_0 a0_1 a0_2 a1) a2.source).2)
        (kBe4 a2 a0_0 a0_1 a0_2 a1)
        (kBe5 a2 a0_0 a0_1 a0_2 a1))))
def w10_DriverBeginsR (a0_0 : Int) (a0_1 : Int) (a0_2 : Int) (a1 : List XDeed) (a2 : XCall) : RT :=
 (.need [U8 a0_0, U8 a0_1, U8 a0_2, ∀ x ∈ a1, CS x.c]
   (.ask (cond (!w10_liveF) true (!((w10_playF a0_0 a0_1 a0_2 a1).1)))
     (.leaf .ret ⟨slots 154 [(6, .bool false)], []⟩ [])
     (.need [VB ((w10_playF a0_0 a0_1 a0_2 a1).2.2.1)]
       (.need [NK ((w10_playF a0_0 a0_1 a0_2 a1).2.2.2.1)]
         (.need [(kBe3 a0_0 a0_1 a0_2 a1).length ≤ 1000]
           (.ask (cond ((w10_findF (kBe3 a0_0 a0_1 a0_2 a1) a2.target).2) true (decide ((dD_SeenF (1 : Int) a2.target ((w10_playF a0_0 a0_1 a0_2 a1).2.1) ((w10_playF a0_0 a0_1 a0_2 a1).2.2.1) ((w10_playF a0_0 a0_1 a0_2 a1).2.2.2.1) ((w10_playF a0_0 a0_1 a0_2 a1).2.2.2.2.1)) ≥ a2.num)))
             (.leaf .ret ⟨slots 154 [(6, .bool true)], []⟩ [])
             (.need [CS (⟨(1 : Int), a2.target, a2.num, a2.size, a2.zone, a2.node, a2.source⟩ : XCall)]
               (.need [VB ((kBe1 a2 a0_0 a0_1 a0_2 a1).2.2.1), (dD_VolumesF ((kBe1 a2 a0_0 a0_1 a0_2 a1).2.1) ((kBe1 a2 a0_0 a0_1 a0_2 a1).2.2.1) ((kBe1 a2 a0_0 a0_1 a0_2 a1).2.2.2.1) ((kBe1 a2 a0_0 a0_1 a0_2 a1).2.2.2.2)).length ≤ 1000]
                 (.ask (!((((kBe1 a2 a0_0 a0_1 a0_2 a1).1).err) == (0 : Int)))
                   (.leaf .ret ⟨slots 154 [(6, .bool (!((kBe0 a2 a0_0 a0_1 a0_2 a1).2)))], []⟩ [])
                   (.need [(kBe3 a0_0 a0_1 a0_2 a1).length ≤ 1000]
                     (.ask ((w10_findF (kBe3 a0_0 a0_1 a0_2 a1) a2.source).2)
                       (.leaf .ret ⟨slots 154 [(6, .bool (kBe4 a2 a0_0 a0_1 a0_2 a1))], []⟩ [])
                       (.leaf .ret ⟨slots 154 [(6, .bool (kBe5 a2 a0_0 a0_1 a0_2 a1))], []⟩ []))))))))))))
theorem w10_DriverBeginsF_tr (a0_0 : Int) (a0_1 : Int) (a0_2 : Int) (a1 : List XDeed) (a2 : XCall) (hp0 : U8 a0_0) (hp1 : U8 a0_1) (hp2 : U8 a0_2) (hp3 : ∀ x ∈ a1, CS x.c) (hp4 : CS a2) : Tr Try.prog 0 (bodyOf Try.f7) (fnBegins Try.f7 [.agg [.int .u8 a0_0, .int .u8 a0_1, .int .u8 a0_2], .coll ⟨.deed, a1⟩, .agg (cc a2)] []) (fnEnds Try.prog Try.f7 (.bool (w10_DriverBeginsF a0_0 a0_1 a0_2 a1 a2)) []) := by
 refine Tr_tree (kok _ _ _ _ _ _) (E := E_w10_DriverBegins) (L := (loopsSel [(0, [(82, true)], w10_DriverBeginsLS a0_0 a0_1 a0_2 a1 a2 (((w10_findF (kBe3 a0_0 a0_1 a0_2 a1) a2.source).1).tag) (((w10_findF (kBe3 a0_0 a0_1 a0_2 a1) a2.source).1).size) 0, [1, 13, 14], w10_DriverBeginsLT a0_0 a0_1 a0_2 a1 a2 (((w10_findF (kBe3 a0_0 a0_1 a0_2 a1) a2.source).1).tag) (((w10_findF (kBe3 a0_0 a0_1 a0_2 a1) a2.source).1).size) 0), (0, [(82, false)], w10_DriverBeginsL1S a0_0 a0_1 a0_2 a1 a2 (0 : Int) (0 : Int) 0, [1, 13, 14], w10_DriverBeginsL1T a0_0 a0_1 a0_2 a1 a2 (0 : Int) (0 : Int) 0)])) 60 9999 (LoopsOk.sel (by kernel_rfl) ⟨⟨by kernel_rfl, by kernel_rfl, by kernel_rfl, loopAt Try.f7 0, by kernel_rfl, (fun Q h => w10_DriverBeginsL_loop a0_0 a0_1 a0_2 a1 a2 hp0 hp1 hp2 hp3 hp4 (by exact snaps_len (iv_nk (play_iv hp0 hp1 hp2 _)) _ _ _) ⟨((((w10_findF (kBe3 a0_0 a0_1 a0_2 a1) a2.source).1).tag), (((w10_findF (kBe3 a0_0 a0_1 a0_2 a1) a2.source).1).size), 0), by first | exact Nat.zero_le _ | (show 0 ≤ (kBe2 a0_0 a0_1 a0_2 a1).length; omega) | (show 0 ≤ (kBe2 a0_0 a0_1 a0_2 a1).length; exact ⟨Nat.zero_le _, by assumption⟩) | (show 0 ≤ (kBe2 a0_0 a0_1 a0_2 a1).length; simp)⟩ Q h)⟩, ⟨by kernel_rfl, by kernel_rfl, by kernel_rfl, loopAt Try.f7 0, by kernel_rfl, (fun Q h => w10_DriverBeginsL1_loop a0_0 a0_1 a0_2 a1 a2 hp0 hp1 hp2 hp3 hp4 (by exact snaps_len (iv_nk (play_iv hp0 hp1 hp2 _)) _ _ _) ⟨((0 : Int), (0 : Int), 0), by first | exact Nat.zero_le _ | (show 0 ≤ (kBe2 a0_0 a0_1 a0_2 a1).length; omega) | (show 0 ≤ (kBe2 a0_0 a0_1 a0_2 a1).length; exact ⟨Nat.zero_le _, by assumption⟩) | (show 0 ≤ (kBe2 a0_0 a0_1 a0_2 a1).length; simp)⟩ Q h)⟩, trivial⟩) (w10_DriverBeginsR a0_0 a0_1 a0_2 a1 a2) (by kernel_rfl) (by kernel_rfl) (by kernel_rfl) ?_
 unfold w10_DriverBeginsR
 refine ⟨(by (iterate 3 refine need_cons (by (try refine fun (_ : _ = _) => ?_); (try refine fun (_ : _ ∧ _) => ?_); assumption) ?_); refine need_cons (by (try refine fun (_ : _ = _) => ?_); (try refine fun (_ : _ ∧ _) => ?_); exact hp3) ?_; exact need_nil), ?_⟩
 refine ⟨fun h0 => ?_, fun h0 => ?_⟩
 · have hF : w10_DriverBeginsF a0_0 a0_1 a0_2 a1 a2 = false := by first | exact (cond_t h0 rfl) | simp only [w10_DriverBeginsF, h0, cond_true, cond_false]
   exact ⟨trivial, .inl (by (try rw [hF]); kernel_rfl), by (try rw [hF]); kernel_rfl⟩
 · refine ⟨need_cons (by (try refine fun (_ : _ = _) => ?_); (try refine fun (_ : _ ∧ _) => ?_); exact play_vb hp0 hp1 hp2 _) (need_nil), ?_⟩
   refine ⟨need_cons (by (try refine fun (_ : _ = _) => ?_); (try refine fun (_ : _ ∧ _) => ?_); exact iv_nk (play_iv hp0 hp1 hp2 _)) (need_nil), ?_⟩
   refine ⟨need_cons (by (try refine fun (_ : _ = _) => ?_); (try refine fun (_ : _ ∧ _) => ?_); exact play_len hp0 hp1 hp2 _) (need_nil), ?_⟩
   refine ⟨fun h1 => ?_, fun h1 => ?_⟩
   · have hF : w10_DriverBeginsF a0_0 a0_1 a0_2 a1 a2 = true := by first | exact (cond_f h0 (cond_t h1 rfl)) | simp only [w10_DriverBeginsF, h0, h1, cond_true, cond_false]
     exact ⟨trivial, .inl (by (try rw [hF]); kernel_rfl), by (try rw [hF]); kernel_rfl⟩
   · refine ⟨need_cons (by (try refine fun (_ : _ = _) => ?_); (try refine fun (_ : _ ∧ _) => ?_); exact hp4) (need_nil), ?_⟩
     refine ⟨need_cons (by (try refine fun (_ : _ = _) => ?_); (try refine fun (_ : _ ∧ _) => ?_); exact play_do hp0 hp1 hp2 _ _) (need_cons (by (try refine fun (_ : _ = _) => ?_); (try refine fun (_ : _ ∧ _) => ?_); exact play_dolen hp0 hp1 hp2 _ _) (need_nil)), ?_⟩
     refine ⟨fun h2 => ?_, fun h2 => ?_⟩
     · have hF : w10_DriverBeginsF a0_0 a0_1 a0_2 a1 a2 = (!((kBe0 a2 a0_0 a0_1 a0_2 a1).2)) := by first | exact (cond_f h0 (cond_f h1 (cond_t h2 rfl))) | simp only [w10_DriverBeginsF, h0, h1, h2, cond_true, cond_false]
       exact ⟨trivial, .inl (by (try rw [hF]); kernel_rfl), by (try rw [hF]); kernel_rfl⟩
     · refine ⟨need_cons (by (try refine fun (_ : _ = _) => ?_); (try refine fun (_ : _ ∧ _) => ?_); exact play_len hp0 hp1 hp2 _) (need_nil), ?_⟩
       refine ⟨fun h3 => ?_, fun h3 => ?_⟩
       · have hF : w10_DriverBeginsF a0_0 a0_1 a0_2 a1 a2 = (kBe4 a2 a0_0 a0_1 a0_2 a1) := by first | exact (cond_f h0 (cond_f h1 (cond_f h2 (cond_t h3 rfl)))) | simp only [w10_DriverBeginsF, h0, h1, h2, h3, cond_true, cond_false]
         exact ⟨trivial, .inl (by (try rw [hF]); kernel_rfl), by (try rw [hF]); kernel_rfl⟩
       · have hF : w10_DriverBeginsF a0_0 a0_1 a0_2 a1 a2 = (kBe5 a2 a0_0 a0_1 a0_2 a1) := by first | exact (cond_f h0 (cond_f h1 (cond_f h2 (cond_f h3 rfl)))) | simp only [w10_DriverBeginsF, h0, h1, h2, h3, cond_true, cond_false]
         exact ⟨trivial, .inl (by (try rw [hF]); kernel_rfl), by (try rw [hF]); kernel_rfl⟩
end Go.Proofs.Ytpffbkbadnhmmaa
