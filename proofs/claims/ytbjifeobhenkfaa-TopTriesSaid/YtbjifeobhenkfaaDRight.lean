/- Objects that are right. -/
import Derived.Test.YtbjifeobhenkfaaDLib1
import Derived.Test.YtbjifeobhenkfaaDAtt
import Derived.Test.YtbjifeobhenkfaaDH1
set_option linter.unusedVariables false
set_option linter.unusedSimpArgs false
set_option maxRecDepth 100000
namespace Go.Proofs.Ytbjifeobhenkfaa
open Go Go.Eng
def ckL : List (Nat × Kind) := [(2, .int .i64), (3, .int .i64), (4, .bool), (5, .int .u8), (6, .int .u8), (9, .str), (10, .str), (11, .str), (12, .int .u64), (21, .int .i32), (24, .int .u8), (26, .key), (27, .int .u64), (28, .int .i64), (37, .int .u8), (38, .int .u8), (40, .obj), (50, .strs), (63, .event), (74, .sn), (134, .int .u64), (149, .int .u32), (164, .int .u8), (165, .int .u8), (167, .int .i32), (168, .int .i32)]
def ckf : TypeId → Option Kind := fun t => ckL.lookup t
noncomputable def E_object_Name : Env := envOf (P := Try.prog) [] [] [] ckf
def object_NameLF (a0 : ByteArray) : Nat → Nat → Bool
 | 0, i => false
 | n + 1, i => cond (cond (cond (cond (cond (cond (!(cond (decide ((byteAt a0 (i : Int)) ≥ (97 : Int))) (decide ((byteAt a0 (i : Int)) ≤ (122 : Int))) false)) (!(cond (decide ((byteAt a0 (i : Int)) ≥ (48 : Int))) (decide ((byteAt a0 (i : Int)) ≤ (57 : Int))) false)) false) (!((byteAt a0 (i : Int)) == (45 : Int))) false) (!((byteAt a0 (i : Int)) == (46 : Int))) false) (!((byteAt a0 (i : Int)) == (35 : Int))) false) (!((byteAt a0 (i : Int)) == (47 : Int))) false)
  true
  (object_NameLF a0 n (i + 1))
def object_NameLS (a0 : ByteArray) (i : Nat) : St :=
 ⟨slots 57 [(0, .str a0), (8, .int .i64 (a0.size : Int)), (9, .int .i64 (i : Int))], []⟩
def object_NameLR (a0 : ByteArray) (i : Nat) : RT :=
 (.ask (decide ((i : Int) < (a0.size : Int)))
   (.need [0 ≤ (i : Int) ∧ (i : Int) < (a0.size : Int)]
     (.ask (cond (cond (cond (cond (cond (!(cond (decide ((byteAt a0 (i : Int)) ≥ (97 : Int))) (decide ((byteAt a0 (i : Int)) ≤ (122 : Int))) false)) (!(cond (decide ((byteAt a0 (i : Int)) ≥ (48 : Int))) (decide ((byteAt a0 (i : Int)) ≤ (57 : Int))) false)) false) (!((byteAt a0 (i : Int)) == (45 : Int))) false) (!((byteAt a0 (i : Int)) == (46 : Int))) false) (!((byteAt a0 (i : Int)) == (35 : Int))) false) (!((byteAt a0 (i : Int)) == (47 : Int))) false)
       (.leaf .ret ⟨slots 57 [(2, .bool false)], []⟩ [])
       (.leaf .normal ⟨slots 57 [(0, .str a0), (8, .int .i64 (a0.size : Int)), (9, .int .i64 (IntKind.i64.wrap ((i : Int) + (1 : Int))))], []⟩ [])))
   (.leaf (.exit 0) ⟨slots 57 [(0, .str a0)], []⟩ []))
def object_NameLT (a0 : ByteArray) (i : Nat) : Tree :=
 .ask (object_NameLF a0 (a0.size - i) i) (.leaf .ret ⟨slots 57 [(2, .bool false)], []⟩) (.leaf (.exit 0) ⟨slots 57 [(0, .str a0)], []⟩)
theorem object_NameL_loop (a0 : ByteArray) (hp0 : a0.size < 4611686018427387904) (hlen : a0.size < 4611686018427387904) (z : { z : Nat // z ≤ a0.size }) (Q : Exit → St → Prop) (h : (object_NameLT a0 z.1).All Q) : Tr Try.prog 0 (.loop (loopAt Try.f16 0)) (object_NameLS a0 z.1) Q := by
 refine Tr_loopT (kok _ _ _ _ _ _) (E := E_object_Name) (ι := { z : Nat // z ≤ a0.size }) 60 0 (fun _ => noLoops) (fun z => object_NameLS a0 z.1) (fun z => object_NameLT a0 z.1) (fun z => object_NameLR a0 z.1) (fun z => a0.size - z.1) (fun _ => LoopsOk.none) (fun z => by obtain ⟨i, hi⟩ := z; kernel_rfl) (fun z => by obtain ⟨i, hi⟩ := z; kernel_rfl) (fun z => by obtain ⟨i, hi⟩ := z; kernel_rfl) ?_ z Q h
 rintro ⟨i, hi⟩ Q hT
 replace hT : (object_NameLT a0 i).All Q := hT
 replace hi : i ≤ a0.size := hi
 show (object_NameLR a0 i).All _
 unfold object_NameLR
 refine ⟨fun h0 => ?_, fun h0 => ?_⟩
 · have hlt : i < a0.size := by simpa using h0
   have hd : a0.size - i = (a0.size - (i + 1)) + 1 := by omega
   have hw := wrap_succ (i := i) (by omega)
   refine ⟨need_cons (by first | assumption | omega | (intro; omega) | (simp only [decide_eq_true_eq, decide_eq_false_iff_not, Bool.cond_false_right, Bool.cond_true_right, Bool.cond_true_left, Bool.cond_false_left, Bool.and_eq_true, Bool.or_eq_true, Bool.not_eq_true', bytesLim, maxLen, List.length_cons, List.length_nil, List.length_append, byteSize_lit] at *; omega) | (intro; simp only [decide_eq_true_eq, decide_eq_false_iff_not, Bool.cond_false_right, Bool.cond_true_right, Bool.cond_true_left, Bool.cond_false_left, Bool.and_eq_true, Bool.or_eq_true, Bool.not_eq_true', bytesLim, maxLen, List.length_cons, List.length_nil, List.length_append, byteSize_lit] at *; omega)) (need_nil), ?_⟩
   refine ⟨fun h1 => ?_, fun h1 => ?_⟩
   · have hF : object_NameLF a0 (a0.size - i) i = true := by rw [hd]; first | exact (cond_t h1 rfl) | simp only [object_NameLF, h0, h1, cond_true, cond_false]
     unfold object_NameLT at hT
     rw [hF] at hT
     exact hT.1 rfl
   · have hF : object_NameLF a0 (a0.size - i) i = object_NameLF a0 (a0.size - (i + 1)) (i + 1) := by rw [hd]; first | exact (cond_f h1 rfl) | simp only [object_NameLF, h0, h1, cond_true, cond_false]
     refine ⟨⟨(i + 1), by show (i + 1) ≤ a0.size; omega⟩, by show a0.size - (i + 1) < a0.size - i; omega, ?_, ?_⟩
     · show _ = object_NameLS a0 (i + 1)
       unfold object_NameLS
       simp only [hw]
     · show (object_NameLT a0 (i + 1)).All Q
       unfold object_NameLT at hT ⊢
       rw [hF] at hT
       exact hT
 · have hge : ¬ i < a0.size := by simpa using h0
   have hd : a0.size - i = 0 := by omega
   have hF : object_NameLF a0 (a0.size - i) i = false := by rw [hd]; first | exact rfl | simp only [object_NameLF, h0, cond_true, cond_false]
   unfold object_NameLT at hT
   rw [hF] at hT
   exact hT.2 rfl
def object_NameF (a0 : ByteArray) : Bool :=
 cond (object_NameLF a0 (a0.size) 0)
  false
  (cond (!(decide (a0 = (⟨#[]⟩ : ByteArray)))) (decide ((a0.size : Int) ≤ (40 : Int))) false)
def object_NameR (a0 : ByteArray) : RT :=
 (.ask (object_NameLF a0 (a0.size) 0)
   (.leaf .ret ⟨slots 57 [(2, .bool false)], []⟩ [])
   (.leaf .ret ⟨slots 57 [(2, .bool (cond (!(decide (a0 = (⟨#[]⟩ : ByteArray)))) (decide ((a0.size : Int) ≤ (40 : Int))) false))], []⟩ []))
theorem object_NameF_tr (a0 : ByteArray) (hp0 : a0.size < 4611686018427387904) : Tr Try.prog 0 (bodyOf Try.f16) (fnBegins Try.f16 [.str a0] []) (fnEnds Try.prog Try.f16 (.bool (object_NameF a0)) []) := by
 refine Tr_tree (kok _ _ _ _ _ _) (E := E_object_Name) (L := (loopsOf [(0, object_NameLS a0 0, [], object_NameLT a0 0)])) 60 9999 (LoopsOk.one (g := loopAt Try.f16 0) (b := 0) (by kernel_rfl) (by kernel_rfl) (by kernel_rfl) (by kernel_rfl) (fun Q h => object_NameL_loop a0 hp0 (by first | assumption | omega | (simp only [List.length_cons, List.length_nil, List.length_append]; omega)) ⟨0, by first | exact Nat.zero_le _ | (show 0 ≤ a0.size; omega) | (show 0 ≤ a0.size; exact ⟨Nat.zero_le _, by assumption⟩) | (show 0 ≤ a0.size; simp)⟩ Q h)) (object_NameR a0) (by kernel_rfl) (by kernel_rfl) (by kernel_rfl) ?_
 unfold object_NameR
 refine ⟨fun h0 => ?_, fun h0 => ?_⟩
 · have hF : object_NameF a0 = false := by first | exact (cond_t h0 rfl) | simp only [object_NameF, h0, cond_true, cond_false]
   exact ⟨trivial, .inl (by first | (rw [hF]; kernel_rfl) | kernel_rfl), by first | (rw [hF]; kernel_rfl) | kernel_rfl⟩
 · have hF : object_NameF a0 = (cond (!(decide (a0 = (⟨#[]⟩ : ByteArray)))) (decide ((a0.size : Int) ≤ (40 : Int))) false) := by first | exact (cond_f h0 rfl) | simp only [object_NameF, h0, cond_true, cond_false]
   exact ⟨trivial, .inl (by first | (rw [hF]; kernel_rfl) | kernel_rfl), by first | (rw [hF]; kernel_rfl) | kernel_rfl⟩
noncomputable def object_Name_fact : Fact Try.prog := factOf 16 Try.f16 (by kernel_rfl) rfl (by kernel_rfl) [.c (.str)] [] true (fun t u => .bool (object_NameF t.1)) (fun t u => []) (fun t u => [t.1.size < 4611686018427387904])
 (fun _ _ _ => rfl) (fun t u => by kernel_rfl) (fun t u => by kernel_rfl) (fun t u h => object_NameF_tr t.1 (h _ List.mem_cons_self))
noncomputable def E_object_rest : Env := envOf (P := Try.prog) [] [] [] ckf
def object_restF (a0 : XObj) : XObj :=
 cond (a0.kind == (1 : Int))
  ({ a0 with name := (⟨#[]⟩ : ByteArray), version := (0 : Int), born := (0 : Int), deleting := false, hold := false, keep := false, wait := false, zone := (⟨#[]⟩ : ByteArray) } : XObj)
  (cond (a0.kind == (2 : Int))
    ({ a0 with name := (⟨#[]⟩ : ByteArray), version := (0 : Int), born := (0 : Int), deleting := false, hold := false, zone := (⟨#[]⟩ : ByteArray) } : XObj)
    (cond (a0.kind == (3 : Int))
      (⟨a0.kind, (⟨#[]⟩ : ByteArray), (0 : Int), (0 : Int), false, false, (⟨#[]⟩ : ByteArray), (0 : Int), (0 : Int), (0 : Int), a0.keep, a0.wait, (⟨#[]⟩ : ByteArray), (⟨#[]⟩ : ByteArray), a0.claim, (⟨#[]⟩ : ByteArray), (⟨#[]⟩ : ByteArray), (0 : Int), (0 : Int), a0.tag⟩ : XObj)
      (cond (a0.kind == (4 : Int))
        (⟨a0.kind, (⟨#[]⟩ : ByteArray), (0 : Int), (0 : Int), false, false, (⟨#[]⟩ : ByteArray), (0 : Int), (0 : Int), (0 : Int), false, a0.wait, (⟨#[]⟩ : ByteArray), a0.node, (⟨#[]⟩ : ByteArray), a0.volume, a0.source, (0 : Int), (0 : Int), a0.tag⟩ : XObj)
        (cond (a0.kind == (5 : Int))
          ({ a0 with name := (⟨#[]⟩ : ByteArray), version := (0 : Int), born := (0 : Int), deleting := false, hold := false, node := (⟨#[]⟩ : ByteArray), volume := (⟨#[]⟩ : ByteArray), phase := (0 : Int), num := (0 : Int) } : XObj)
          (cond (a0.kind == (6 : Int))
            ({ a0 with name := (⟨#[]⟩ : ByteArray), version := (0 : Int), born := (0 : Int), deleting := false, hold := false, node := (⟨#[]⟩ : ByteArray), claim := (⟨#[]⟩ : ByteArray) } : XObj)
            (cond (a0.kind == (7 : Int))
              (⟨a0.kind, (⟨#[]⟩ : ByteArray), (0 : Int), (0 : Int), false, false, a0.cls, a0.size, (0 : Int), a0.mode, a0.keep, a0.wait, a0.zone, a0.node, a0.claim, (⟨#[]⟩ : ByteArray), (⟨#[]⟩ : ByteArray), (0 : Int), (0 : Int), (0 : Int)⟩ : XObj)
              ({ a0 with name := (⟨#[]⟩ : ByteArray), version := (0 : Int), born := (0 : Int), deleting := false, hold := false } : XObj)))))))
def object_restR (a0 : XObj) : RT :=
 (.ask (a0.kind == (1 : Int))
   (.leaf .ret ⟨slots 60 [(2, .ptr 0 0)], [.cells 40 [.int .u8 a0.kind, .str (⟨#[]⟩ : ByteArray), .int .u64 0, .int .u64 0, .bool false, .bool false, .str a0.cls, .int .i64 a0.size, .int .i64 a0.got, .int .u8 a0.mode, .bool false, .bool false, .str (⟨#[]⟩ : ByteArray), .str a0.node, .str a0.claim, .str a0.volume, .str a0.source, .int .u8 a0.phase, .int .u64 a0.num, .int .u64 a0.tag]]⟩ [1])
   (.ask (a0.kind == (2 : Int))
     (.leaf .ret ⟨slots 60 [(2, .ptr 0 0)], [.cells 40 [.int .u8 a0.kind, .str (⟨#[]⟩ : ByteArray), .int .u64 0, .int .u64 0, .bool false, .bool false, .str a0.cls, .int .i64 a0.size, .int .i64 a0.got, .int .u8 a0.mode, .bool a0.keep, .bool a0.wait, .str (⟨#[]⟩ : ByteArray), .str a0.node, .str a0.claim, .str a0.volume, .str a0.source, .int .u8 a0.phase, .int .u64 a0.num, .int .u64 a0.tag]]⟩ [1])
     (.ask (a0.kind == (3 : Int))
       (.leaf .ret ⟨slots 60 [(2, .ptr 0 0)], [.cells 40 [.int .u8 a0.kind, .str (⟨#[]⟩ : ByteArray), .int .u64 0, .int .u64 0, .bool false, .bool false, .str (⟨#[]⟩ : ByteArray), .int .i64 0, .int .i64 0, .int .u8 0, .bool a0.keep, .bool a0.wait, .str (⟨#[]⟩ : ByteArray), .str (⟨#[]⟩ : ByteArray), .str a0.claim, .str (⟨#[]⟩ : ByteArray), .str (⟨#[]⟩ : ByteArray), .int .u8 0, .int .u64 0, .int .u64 a0.tag]]⟩ [1])
       (.ask (a0.kind == (4 : Int))
         (.leaf .ret ⟨slots 60 [(2, .ptr 0 0)], [.cells 40 [.int .u8 a0.kind, .str (⟨#[]⟩ : ByteArray), .int .u64 0, .int .u64 0, .bool false, .bool false, .str (⟨#[]⟩ : ByteArray), .int .i64 0, .int .i64 0, .int .u8 0, .bool false, .bool a0.wait, .str (⟨#[]⟩ : ByteArray), .str a0.node, .str (⟨#[]⟩ : ByteArray), .str a0.volume, .str a0.source, .int .u8 0, .int .u64 0, .int .u64 a0.tag]]⟩ [1])
         (.ask (a0.kind == (5 : Int))
           (.leaf .ret ⟨slots 60 [(2, .ptr 0 0)], [.cells 40 [.int .u8 a0.kind, .str (⟨#[]⟩ : ByteArray), .int .u64 0, .int .u64 0, .bool false, .bool false, .str a0.cls, .int .i64 a0.size, .int .i64 a0.got, .int .u8 a0.mode, .bool a0.keep, .bool a0.wait, .str a0.zone, .str (⟨#[]⟩ : ByteArray), .str a0.claim, .str (⟨#[]⟩ : ByteArray), .str a0.source, .int .u8 0, .int .u64 0, .int .u64 a0.tag]]⟩ [1])
           (.ask (a0.kind == (6 : Int))
             (.leaf .ret ⟨slots 60 [(2, .ptr 0 0)], [.cells 40 [.int .u8 a0.kind, .str (⟨#[]⟩ : ByteArray), .int .u64 0, .int .u64 0, .bool false, .bool false, .str a0.cls, .int .i64 a0.size, .int .i64 a0.got, .int .u8 a0.mode, .bool a0.keep, .bool a0.wait, .str a0.zone, .str (⟨#[]⟩ : ByteArray), .str (⟨#[]⟩ : ByteArray), .str a0.volume, .str a0.source, .int .u8 a0.phase, .int .u64 a0.num, .int .u64 a0.tag]]⟩ [1])
             (.ask (a0.kind == (7 : Int))
               (.leaf .ret ⟨slots 60 [(2, .ptr 0 0)], [.cells 40 [.int .u8 a0.kind, .str (⟨#[]⟩ : ByteArray), .int .u64 0, .int .u64 0, .bool false, .bool false, .str a0.cls, .int .i64 a0.size, .int .i64 0, .int .u8 a0.mode, .bool a0.keep, .bool a0.wait, .str a0.zone, .str a0.node, .str a0.claim, .str (⟨#[]⟩ : ByteArray), .str (⟨#[]⟩ : ByteArray), .int .u8 0, .int .u64 0, .int .u64 0]]⟩ [1])
               (.leaf .ret ⟨slots 60 [(2, .ptr 0 0)], [.cells 40 [.int .u8 a0.kind, .str (⟨#[]⟩ : ByteArray), .int .u64 0, .int .u64 0, .bool false, .bool false, .str a0.cls, .int .i64 a0.size, .int .i64 a0.got, .int .u8 a0.mode, .bool a0.keep, .bool a0.wait, .str a0.zone, .str a0.node, .str a0.claim, .str a0.volume, .str a0.source, .int .u8 a0.phase, .int .u64 a0.num, .int .u64 a0.tag]]⟩ [1]))))))))
theorem object_restF_tr (a0 : XObj)  : Tr Try.prog 0 (bodyOf Try.f38) (fnBegins Try.f38 [.agg [.int .u8 a0.kind, .str a0.name, .int .u64 a0.version, .int .u64 a0.born, .bool a0.deleting, .bool a0.hold, .str a0.cls, .int .i64 a0.size, .int .i64 a0.got, .int .u8 a0.mode, .bool a0.keep, .bool a0.wait, .str a0.zone, .str a0.node, .str a0.claim, .str a0.volume, .str a0.source, .int .u8 a0.phase, .int .u64 a0.num, .int .u64 a0.tag]] []) (fnEnds Try.prog Try.f38 (.agg [.int .u8 ((object_restF a0).kind), .str ((object_restF a0).name), .int .u64 ((object_restF a0).version), .int .u64 ((object_restF a0).born), .bool ((object_restF a0).deleting), .bool ((object_restF a0).hold), .str ((object_restF a0).cls), .int .i64 ((object_restF a0).size), .int .i64 ((object_restF a0).got), .int .u8 ((object_restF a0).mode), .bool ((object_restF a0).keep), .bool ((object_restF a0).wait), .str ((object_restF a0).zone), .str ((object_restF a0).node), .str ((object_restF a0).claim), .str ((object_restF a0).volume), .str ((object_restF a0).source), .int .u8 ((object_restF a0).phase), .int .u64 ((object_restF a0).num), .int .u64 ((object_restF a0).tag)]) []) := by
 refine Tr_tree (kok _ _ _ _ _ _) (E := E_object_rest) (L := noLoops) 60 9999 LoopsOk.none (object_restR a0) (by kernel_rfl) (by kernel_rfl) (by kernel_rfl) ?_
 unfold object_restR
 refine ⟨fun h0 => ?_, fun h0 => ?_⟩
 · have hF : object_restF a0 = ({ a0 with name := (⟨#[]⟩ : ByteArray), version := (0 : Int), born := (0 : Int), deleting := false, hold := false, keep := false, wait := false, zone := (⟨#[]⟩ : ByteArray) } : XObj) := by first | exact (cond_t h0 rfl) | simp only [object_restF, h0, cond_true, cond_false]
   exact ⟨trivial, .inl (by first | (rw [hF]; kernel_rfl) | kernel_rfl), by first | (rw [hF]; kernel_rfl) | kernel_rfl⟩
 · refine ⟨fun h1 => ?_, fun h1 => ?_⟩
   · have hF : object_restF a0 = ({ a0 with name := (⟨#[]⟩ : ByteArray), version := (0 : Int), born := (0 : Int), deleting := false, hold := false, zone := (⟨#[]⟩ : ByteArray) } : XObj) := by first | exact (cond_f h0 (cond_t h1 rfl)) | simp only [object_restF, h0, h1, cond_true, cond_false]
     exact ⟨trivial, .inl (by first | (rw [hF]; kernel_rfl) | kernel_rfl), by first | (rw [hF]; kernel_rfl) | kernel_rfl⟩
   · refine ⟨fun h2 => ?_, fun h2 => ?_⟩
     · have hF : object_restF a0 = (⟨a0.kind, (⟨#[]⟩ : ByteArray), (0 : Int), (0 : Int), false, false, (⟨#[]⟩ : ByteArray), (0 : Int), (0 : Int), (0 : Int), a0.keep, a0.wait, (⟨#[]⟩ : ByteArray), (⟨#[]⟩ : ByteArray), a0.claim, (⟨#[]⟩ : ByteArray), (⟨#[]⟩ : ByteArray), (0 : Int), (0 : Int), a0.tag⟩ : XObj) := by first | exact (cond_f h0 (cond_f h1 (cond_t h2 rfl))) | simp only [object_restF, h0, h1, h2, cond_true, cond_false]
       exact ⟨trivial, .inl (by first | (rw [hF]; kernel_rfl) | kernel_rfl), by first | (rw [hF]; kernel_rfl) | kernel_rfl⟩
     · refine ⟨fun h3 => ?_, fun h3 => ?_⟩
       · have hF : object_restF a0 = (⟨a0.kind, (⟨#[]⟩ : ByteArray), (0 : Int), (0 : Int), false, false, (⟨#[]⟩ : ByteArray), (0 : Int), (0 : Int), (0 : Int), false, a0.wait, (⟨#[]⟩ : ByteArray), a0.node, (⟨#[]⟩ : ByteArray), a0.volume, a0.source, (0 : Int), (0 : Int), a0.tag⟩ : XObj) := by first | exact (cond_f h0 (cond_f h1 (cond_f h2 (cond_t h3 rfl)))) | simp only [object_restF, h0, h1, h2, h3, cond_true, cond_false]
         exact ⟨trivial, .inl (by first | (rw [hF]; kernel_rfl) | kernel_rfl), by first | (rw [hF]; kernel_rfl) | kernel_rfl⟩
       · refine ⟨fun h4 => ?_, fun h4 => ?_⟩
         · have hF : object_restF a0 = ({ a0 with name := (⟨#[]⟩ : ByteArray), version := (0 : Int), born := (0 : Int), deleting := false, hold := false, node := (⟨#[]⟩ : ByteArray), volume := (⟨#[]⟩ : ByteArray), phase := (0 : Int), num := (0 : Int) } : XObj) := by first | exact (cond_f h0 (cond_f h1 (cond_f h2 (cond_f h3 (cond_t h4 rfl))))) | simp only [object_restF, h0, h1, h2, h3, h4, cond_true, cond_false]
           exact ⟨trivial, .inl (by first | (rw [hF]; kernel_rfl) | kernel_rfl), by first | (rw [hF]; kernel_rfl) | kernel_rfl⟩
         · refine ⟨fun h5 => ?_, fun h5 => ?_⟩
           · have hF : object_restF a0 = ({ a0 with name := (⟨#[]⟩ : ByteArray), version := (0 : Int), born := (0 : Int), deleting := false, hold := false, node := (⟨#[]⟩ : ByteArray), claim := (⟨#[]⟩ : ByteArray) } : XObj) := by first | exact (cond_f h0 (cond_f h1 (cond_f h2 (cond_f h3 (cond_f h4 (cond_t h5 rfl)))))) | simp only [object_restF, h0, h1, h2, h3, h4, h5, cond_true, cond_false]
             exact ⟨trivial, .inl (by first | (rw [hF]; kernel_rfl) | kernel_rfl), by first | (rw [hF]; kernel_rfl) | kernel_rfl⟩
           · refine ⟨fun h6 => ?_, fun h6 => ?_⟩
             · have hF : object_restF a0 = (⟨a0.kind, (⟨#[]⟩ : ByteArray), (0 : Int), (0 : Int), false, false, a0.cls, a0.size, (0 : Int), a0.mode, a0.keep, a0.wait, a0.zone, a0.node, a0.claim, (⟨#[]⟩ : ByteArray), (⟨#[]⟩ : ByteArray), (0 : Int), (0 : Int), (0 : Int)⟩ : XObj) := by first | exact (cond_f h0 (cond_f h1 (cond_f h2 (cond_f h3 (cond_f h4 (cond_f h5 (cond_t h6 rfl))))))) | simp only [object_restF, h0, h1, h2, h3, h4, h5, h6, cond_true, cond_false]
               exact ⟨trivial, .inl (by first | (rw [hF]; kernel_rfl) | kernel_rfl), by first | (rw [hF]; kernel_rfl) | kernel_rfl⟩
             · have hF : object_restF a0 = ({ a0 with name := (⟨#[]⟩ : ByteArray), version := (0 : Int), born := (0 : Int), deleting := false, hold := false } : XObj) := by first | exact (cond_f h0 (cond_f h1 (cond_f h2 (cond_f h3 (cond_f h4 (cond_f h5 (cond_f h6 rfl))))))) | simp only [object_restF, h0, h1, h2, h3, h4, h5, h6, cond_true, cond_false]
               exact ⟨trivial, .inl (by first | (rw [hF]; kernel_rfl) | kernel_rfl), by first | (rw [hF]; kernel_rfl) | kernel_rfl⟩
noncomputable def object_rest_fact : Fact Try.prog := factOf 38 Try.f38 (by kernel_rfl) rfl (by kernel_rfl) [.st .obj] [] true (fun t u => .agg [.int .u8 ((object_restF t.1).kind), .str ((object_restF t.1).name), .int .u64 ((object_restF t.1).version), .int .u64 ((object_restF t.1).born), .bool ((object_restF t.1).deleting), .bool ((object_restF t.1).hold), .str ((object_restF t.1).cls), .int .i64 ((object_restF t.1).size), .int .i64 ((object_restF t.1).got), .int .u8 ((object_restF t.1).mode), .bool ((object_restF t.1).keep), .bool ((object_restF t.1).wait), .str ((object_restF t.1).zone), .str ((object_restF t.1).node), .str ((object_restF t.1).claim), .str ((object_restF t.1).volume), .str ((object_restF t.1).source), .int .u8 ((object_restF t.1).phase), .int .u64 ((object_restF t.1).num), .int .u64 ((object_restF t.1).tag)]) (fun t u => []) (fun t u => [])
 (fun _ _ _ => rfl) (fun t u => by kernel_rfl) (fun t u => by kernel_rfl) (fun t u h => object_restF_tr t.1 )
noncomputable def E_object_names : Env := envOf (P := Try.prog) [object_Name_fact] [] [] ckf
def object_namesLF  : List ByteArray → Bool
 | [] => false
 | o :: r => cond (cond (!(decide (o = (⟨#[]⟩ : ByteArray)))) (!(object_NameF o)) false)
  true
  (object_namesLF r)
def object_namesLS (a0 : List ByteArray) (i : Nat) : St :=
 ⟨slots 19 [(5, .coll ⟨.str, a0⟩), (6, .int .i64 (a0.length : Int)), (7, .int .i64 (i : Int))], []⟩
def object_namesLR (a0 : List ByteArray) (i : Nat) : RT :=
 (.ask (decide ((i : Int) < (a0.length : Int)))
   (.need [0 ≤ (i : Int) ∧ (i : Int) < (a0.length : Int)]
     (.need [((!(decide ((a0.getD i default) = (⟨#[]⟩ : ByteArray)))) = true) → ((a0.getD i default).size < 4611686018427387904)]
       (.ask (cond (!(decide ((a0.getD i default) = (⟨#[]⟩ : ByteArray)))) (!(object_NameF (a0.getD i default))) false)
         (.leaf .ret ⟨slots 19 [(2, .bool false)], []⟩ [])
         (.leaf .normal ⟨slots 19 [(5, .coll ⟨.str, a0⟩), (6, .int .i64 (a0.length : Int)), (7, .int .i64 (IntKind.i64.wrap ((i : Int) + (1 : Int))))], []⟩ []))))
   (.leaf (.exit 0) ⟨slots 19 [], []⟩ []))
def object_namesLT (a0 : List ByteArray) (i : Nat) : Tree :=
 .ask (object_namesLF (a0.drop i)) (.leaf .ret ⟨slots 19 [(2, .bool false)], []⟩) (.leaf (.exit 0) ⟨slots 19 [], []⟩)
theorem object_namesL_loop (a0 : List ByteArray) (hp0 : a0.length < 4611686018427387904) (hp1 : ∀ q ∈ a0, q.size < 4611686018427387904) (hlen : a0.length < 4611686018427387904) (z : { z : Nat // z ≤ a0.length }) (Q : Exit → St → Prop) (h : (object_namesLT a0 z.1).All Q) : Tr Try.prog 0 (.loop (loopAt Try.f39 0)) (object_namesLS a0 z.1) Q := by
 refine Tr_loopT (kok _ _ _ _ _ _) (E := E_object_names) (ι := { z : Nat // z ≤ a0.length }) 60 0 (fun _ => noLoops) (fun z => object_namesLS a0 z.1) (fun z => object_namesLT a0 z.1) (fun z => object_namesLR a0 z.1) (fun z => a0.length - z.1) (fun _ => LoopsOk.none) (fun z => by obtain ⟨i, hi⟩ := z; kernel_rfl) (fun z => by obtain ⟨i, hi⟩ := z; kernel_rfl) (fun z => by obtain ⟨i, hi⟩ := z; kernel_rfl) ?_ z Q h
 rintro ⟨i, hi⟩ Q hT
 replace hT : (object_namesLT a0 i).All Q := hT
 replace hi : i ≤ a0.length := hi
 show (object_namesLR a0 i).All _
 unfold object_namesLR
 refine ⟨fun h0 => ?_, fun h0 => ?_⟩
 · have hlt : i < a0.length := by simpa using h0
   have hd := drop_getD hlt
   have hw := wrap_succ (i := i) (by omega)
   refine ⟨need_cons (by first | assumption | omega | (intro; omega) | (simp only [decide_eq_true_eq, decide_eq_false_iff_not, Bool.cond_false_right, Bool.cond_true_right, Bool.cond_true_left, Bool.cond_false_left, Bool.and_eq_true, Bool.or_eq_true, Bool.not_eq_true', bytesLim, maxLen, List.length_cons, List.length_nil, List.length_append, byteSize_lit] at *; omega) | (intro; simp only [decide_eq_true_eq, decide_eq_false_iff_not, Bool.cond_false_right, Bool.cond_true_right, Bool.cond_true_left, Bool.cond_false_left, Bool.and_eq_true, Bool.or_eq_true, Bool.not_eq_true', bytesLim, maxLen, List.length_cons, List.length_nil, List.length_append, byteSize_lit] at *; omega)) (need_nil), ?_⟩
   refine ⟨need_cons (by (try refine fun (_ : _ = _) => ?_); (try refine fun (_ : _ ∧ _) => ?_); exact (hp1 _ (gD_mem hlt))) (need_nil), ?_⟩
   refine ⟨fun h1 => ?_, fun h1 => ?_⟩
   · have hF : object_namesLF (a0.drop i) = true := by rw [hd]; first | exact (cond_t h1 rfl) | simp only [object_namesLF, h0, h1, cond_true, cond_false]
     unfold object_namesLT at hT
     rw [hF] at hT
     exact hT.1 rfl
   · have hF : object_namesLF (a0.drop i) = object_namesLF (a0.drop (i + 1)) := by rw [hd]; first | exact (cond_f h1 rfl) | simp only [object_namesLF, h0, h1, cond_true, cond_false]
     refine ⟨⟨(i + 1), by show (i + 1) ≤ a0.length; omega⟩, by show a0.length - (i + 1) < a0.length - i; omega, ?_, ?_⟩
     · show _ = object_namesLS a0 (i + 1)
       unfold object_namesLS
       simp only [hw]
     · show (object_namesLT a0 (i + 1)).All Q
       unfold object_namesLT at hT ⊢
       rw [hF] at hT
       exact hT
 · have hge : ¬ i < a0.length := by simpa using h0
   have hd : a0.drop i = [] := List.drop_eq_nil_of_le (by omega)
   have hF : object_namesLF (a0.drop i) = false := by rw [hd]; first | exact rfl | simp only [object_namesLF, h0, cond_true, cond_false]
   unfold object_namesLT at hT
   rw [hF] at hT
   exact hT.2 rfl
def object_namesF (a0 : List ByteArray) : Bool :=
 cond (object_namesLF a0)
  false
  true
def object_namesR (a0 : List ByteArray) : RT :=
 (.ask (object_namesLF a0)
   (.leaf .ret ⟨slots 19 [(2, .bool false)], []⟩ [])
   (.leaf .ret ⟨slots 19 [(2, .bool true)], []⟩ []))
theorem object_namesF_tr (a0 : List ByteArray) (hp0 : a0.length < 4611686018427387904) (hp1 : ∀ q ∈ a0, q.size < 4611686018427387904) : Tr Try.prog 0 (bodyOf Try.f39) (fnBegins Try.f39 [.coll ⟨.str, a0⟩] []) (fnEnds Try.prog Try.f39 (.bool (object_namesF a0)) []) := by
 refine Tr_tree (kok _ _ _ _ _ _) (E := E_object_names) (L := (loopsOf [(0, object_namesLS a0 0, [], object_namesLT a0 0)])) 60 9999 (LoopsOk.one (g := loopAt Try.f39 0) (b := 0) (by kernel_rfl) (by kernel_rfl) (by kernel_rfl) (by kernel_rfl) (fun Q h => object_namesL_loop a0 hp0 hp1 (by first | assumption | omega | (simp only [List.length_cons, List.length_nil, List.length_append]; omega)) ⟨0, by first | exact Nat.zero_le _ | (show 0 ≤ a0.length; omega) | (show 0 ≤ a0.length; exact ⟨Nat.zero_le _, by assumption⟩) | (show 0 ≤ a0.length; simp)⟩ Q h)) (object_namesR a0) (by kernel_rfl) (by kernel_rfl) (by kernel_rfl) ?_
 unfold object_namesR
 refine ⟨fun h0 => ?_, fun h0 => ?_⟩
 · have hF : object_namesF a0 = false := by first | exact (cond_t h0 rfl) | simp only [object_namesF, h0, cond_true, cond_false]
   exact ⟨trivial, .inl (by first | (rw [hF]; kernel_rfl) | kernel_rfl), by first | (rw [hF]; kernel_rfl) | kernel_rfl⟩
 · have hF : object_namesF a0 = true := by first | exact (cond_f h0 rfl) | simp only [object_namesF, h0, cond_true, cond_false]
   exact ⟨trivial, .inl (by first | (rw [hF]; kernel_rfl) | kernel_rfl), by first | (rw [hF]; kernel_rfl) | kernel_rfl⟩
noncomputable def object_names_fact : Fact Try.prog := factOf 39 Try.f39 (by kernel_rfl) rfl (by kernel_rfl) [.c (.coll .str)] [] true (fun t u => .bool (object_namesF t.1)) (fun t u => []) (fun t u => [t.1.length < 4611686018427387904, ∀ q ∈ t.1, q.size < 4611686018427387904])
 (fun _ _ _ => rfl) (fun t u => by kernel_rfl) (fun t u => by kernel_rfl) (fun t u h => object_namesF_tr t.1 (h _ List.mem_cons_self) (h _ (List.mem_cons_of_mem _ List.mem_cons_self)))
noncomputable def E_object_Right_1 : Env := envOf (P := Try.prog) [] [] [] ckf
def object_Right_1F (a0 : Int) : Bool :=
 cond (decide (a0 ≥ (0 : Int))) (decide (a0 ≤ (1125899906842624 : Int))) false
def object_Right_1R (a0 : Int) : RT :=
 (.leaf .ret ⟨slots 9 [(2, .bool (cond (decide (a0 ≥ (0 : Int))) (decide (a0 ≤ (1125899906842624 : Int))) false))], []⟩ [])
theorem object_Right_1F_tr (a0 : Int)  : Tr Try.prog 0 (bodyOf Try.f37) (fnBegins Try.f37 [.int .i64 a0] []) (fnEnds Try.prog Try.f37 (.bool (object_Right_1F a0)) []) := by
 refine Tr_tree (kok _ _ _ _ _ _) (E := E_object_Right_1) (L := noLoops) 60 9999 LoopsOk.none (object_Right_1R a0) (by kernel_rfl) (by kernel_rfl) (by kernel_rfl) ?_
 unfold object_Right_1R
 exact ⟨trivial, .inl (by kernel_rfl), by kernel_rfl⟩
noncomputable def object_Right_1_fact : Fact Try.prog := factOf 37 Try.f37 (by kernel_rfl) rfl (by kernel_rfl) [.c (.int .i64)] [] true (fun t u => .bool (object_Right_1F t.1)) (fun t u => []) (fun t u => [])
 (fun _ _ _ => rfl) (fun t u => by kernel_rfl) (fun t u => by kernel_rfl) (fun t u h => object_Right_1F_tr t.1 )
noncomputable def E_strings_Index : Env := envOf (P := Try.prog) [idx1_fact] [] [] ckf
def strings_IndexF (a0 : ByteArray) (a1 : ByteArray) : Int :=
 (idx1 a0 a1)
def strings_IndexR (a0 : ByteArray) (a1 : ByteArray) : RT :=
 (.need [a1.size = 1]
   (.leaf .ret ⟨slots 8 [(4, .int .i64 (idx1 a0 a1))], []⟩ []))
theorem strings_IndexF_tr (a0 : ByteArray) (a1 : ByteArray) (hp0 : a1.size = 1) : Tr Try.prog 0 (bodyOf Try.f63) (fnBegins Try.f63 [.str a0, .str a1] []) (fnEnds Try.prog Try.f63 (.int .i64 (strings_IndexF a0 a1)) []) := by
 refine Tr_tree (kok _ _ _ _ _ _) (E := E_strings_Index) (L := noLoops) 60 9999 LoopsOk.none (strings_IndexR a0 a1) (by kernel_rfl) (by kernel_rfl) (by kernel_rfl) ?_
 unfold strings_IndexR
 refine ⟨need_cons (by first | assumption | omega | (intro; omega) | (simp only [decide_eq_true_eq, decide_eq_false_iff_not, Bool.cond_false_right, Bool.cond_true_right, Bool.cond_true_left, Bool.cond_false_left, Bool.and_eq_true, Bool.or_eq_true, Bool.not_eq_true', bytesLim, maxLen, List.length_cons, List.length_nil, List.length_append, byteSize_lit] at *; omega) | (intro; simp only [decide_eq_true_eq, decide_eq_false_iff_not, Bool.cond_false_right, Bool.cond_true_right, Bool.cond_true_left, Bool.cond_false_left, Bool.and_eq_true, Bool.or_eq_true, Bool.not_eq_true', bytesLim, maxLen, List.length_cons, List.length_nil, List.length_append, byteSize_lit] at *; omega)) (need_nil), ?_⟩
 exact ⟨trivial, .inl (by kernel_rfl), by kernel_rfl⟩
noncomputable def strings_Index_fact : Fact Try.prog := factOf 63 Try.f63 (by kernel_rfl) rfl (by kernel_rfl) [.c (.str), .c (.str)] [] true (fun t u => .int .i64 (strings_IndexF t.1 t.2.1)) (fun t u => []) (fun t u => [t.2.1.size = 1])
 (fun _ _ _ => rfl) (fun t u => by kernel_rfl) (fun t u => by kernel_rfl) (fun t u h => strings_IndexF_tr t.1 t.2.1 (h _ List.mem_cons_self))
noncomputable def E_strings_Contains : Env := envOf (P := Try.prog) [strings_Index_fact] [] [] ckf
def strings_ContainsF (a0 : ByteArray) (a1 : ByteArray) : Bool :=
 decide ((strings_IndexF a0 a1) ≥ (0 : Int))
def strings_ContainsR (a0 : ByteArray) (a1 : ByteArray) : RT :=
 (.need [a1.size = 1]
   (.leaf .ret ⟨slots 9 [(4, .bool (decide ((strings_IndexF a0 a1) ≥ (0 : Int))))], []⟩ []))
theorem strings_ContainsF_tr (a0 : ByteArray) (a1 : ByteArray) (hp0 : a1.size = 1) : Tr Try.prog 0 (bodyOf Try.f40) (fnBegins Try.f40 [.str a0, .str a1] []) (fnEnds Try.prog Try.f40 (.bool (strings_ContainsF a0 a1)) []) := by
 refine Tr_tree (kok _ _ _ _ _ _) (E := E_strings_Contains) (L := noLoops) 60 9999 LoopsOk.none (strings_ContainsR a0 a1) (by kernel_rfl) (by kernel_rfl) (by kernel_rfl) ?_
 unfold strings_ContainsR
 refine ⟨need_cons (by first | assumption | omega | (intro; omega) | (simp only [decide_eq_true_eq, decide_eq_false_iff_not, Bool.cond_false_right, Bool.cond_true_right, Bool.cond_true_left, Bool.cond_false_left, Bool.and_eq_true, Bool.or_eq_true, Bool.not_eq_true', bytesLim, maxLen, List.length_cons, List.length_nil, List.length_append, byteSize_lit] at *; omega) | (intro; simp only [decide_eq_true_eq, decide_eq_false_iff_not, Bool.cond_false_right, Bool.cond_true_right, Bool.cond_true_left, Bool.cond_false_left, Bool.and_eq_true, Bool.or_eq_true, Bool.not_eq_true', bytesLim, maxLen, List.length_cons, List.length_nil, List.length_append, byteSize_lit] at *; omega)) (need_nil), ?_⟩
 exact ⟨trivial, .inl (by kernel_rfl), by kernel_rfl⟩
noncomputable def strings_Contains_fact : Fact Try.prog := factOf 40 Try.f40 (by kernel_rfl) rfl (by kernel_rfl) [.c (.str), .c (.str)] [] true (fun t u => .bool (strings_ContainsF t.1 t.2.1)) (fun t u => []) (fun t u => [t.2.1.size = 1])
 (fun _ _ _ => rfl) (fun t u => by kernel_rfl) (fun t u => by kernel_rfl) (fun t u h => strings_ContainsF_tr t.1 t.2.1 (h _ List.mem_cons_self))
noncomputable def E_object_one : Env := envOf (P := Try.prog) [] [] [] ckf
def object_oneLF (a0 : Int) : List Int → Bool
 | [] => false
 | o :: r => cond (a0 == o)
  true
  (object_oneLF a0 r)
def object_oneLS (a0 : Int) (a1 : List Int) (i : Nat) : St :=
 ⟨slots 17 [(0, .int .u8 a0), (7, .coll ⟨.int .u8, a1⟩), (8, .int .i64 (a1.length : Int)), (9, .int .i64 (i : Int))], []⟩
def object_oneLR (a0 : Int) (a1 : List Int) (i : Nat) : RT :=
 (.ask (decide ((i : Int) < (a1.length : Int)))
   (.need [0 ≤ (i : Int) ∧ (i : Int) < (a1.length : Int)]
     (.ask (a0 == (a1.getD i default))
       (.leaf .ret ⟨slots 17 [(4, .bool true)], []⟩ [])
       (.leaf .normal ⟨slots 17 [(0, .int .u8 a0), (7, .coll ⟨.int .u8, a1⟩), (8, .int .i64 (a1.length : Int)), (9, .int .i64 (IntKind.i64.wrap ((i : Int) + (1 : Int))))], []⟩ [])))
   (.leaf (.exit 0) ⟨slots 17 [], []⟩ []))
def object_oneLT (a0 : Int) (a1 : List Int) (i : Nat) : Tree :=
 .ask (object_oneLF a0 (a1.drop i)) (.leaf .ret ⟨slots 17 [(4, .bool true)], []⟩) (.leaf (.exit 0) ⟨slots 17 [], []⟩)
theorem object_oneL_loop (a0 : Int) (a1 : List Int) (hp0 : a1.length < 4611686018427387904) (hlen : a1.length < 4611686018427387904) (z : { z : Nat // z ≤ a1.length }) (Q : Exit → St → Prop) (h : (object_oneLT a0 a1 z.1).All Q) : Tr Try.prog 0 (.loop (loopAt Try.f41 0)) (object_oneLS a0 a1 z.1) Q := by
 refine Tr_loopT (kok _ _ _ _ _ _) (E := E_object_one) (ι := { z : Nat // z ≤ a1.length }) 60 0 (fun _ => noLoops) (fun z => object_oneLS a0 a1 z.1) (fun z => object_oneLT a0 a1 z.1) (fun z => object_oneLR a0 a1 z.1) (fun z => a1.length - z.1) (fun _ => LoopsOk.none) (fun z => by obtain ⟨i, hi⟩ := z; kernel_rfl) (fun z => by obtain ⟨i, hi⟩ := z; kernel_rfl) (fun z => by obtain ⟨i, hi⟩ := z; kernel_rfl) ?_ z Q h
 rintro ⟨i, hi⟩ Q hT
 replace hT : (object_oneLT a0 a1 i).All Q := hT
 replace hi : i ≤ a1.length := hi
 show (object_oneLR a0 a1 i).All _
 unfold object_oneLR
 refine ⟨fun h0 => ?_, fun h0 => ?_⟩
 · have hlt : i < a1.length := by simpa using h0
   have hd := drop_getD hlt
   have hw := wrap_succ (i := i) (by omega)
   refine ⟨need_cons (by first | assumption | omega | (intro; omega) | (simp only [decide_eq_true_eq, decide_eq_false_iff_not, Bool.cond_false_right, Bool.cond_true_right, Bool.cond_true_left, Bool.cond_false_left, Bool.and_eq_true, Bool.or_eq_true, Bool.not_eq_true', bytesLim, maxLen, List.length_cons, List.length_nil, List.length_append, byteSize_lit] at *; omega) | (intro; simp only [decide_eq_true_eq, decide_eq_false_iff_not, Bool.cond_false_right, Bool.cond_true_right, Bool.cond_true_left, Bool.cond_false_left, Bool.and_eq_true, Bool.or_eq_true, Bool.not_eq_true', bytesLim, maxLen, List.length_cons, List.length_nil, List.length_append, byteSize_lit] at *; omega)) (need_nil), ?_⟩
   refine ⟨fun h1 => ?_, fun h1 => ?_⟩
   · have hF : object_oneLF a0 (a1.drop i) = true := by rw [hd]; first | exact (cond_t h1 rfl) | simp only [object_oneLF, h0, h1, cond_true, cond_false]
     unfold object_oneLT at hT
     rw [hF] at hT
     exact hT.1 rfl
   · have hF : object_oneLF a0 (a1.drop i) = object_oneLF a0 (a1.drop (i + 1)) := by rw [hd]; first | exact (cond_f h1 rfl) | simp only [object_oneLF, h0, h1, cond_true, cond_false]
     refine ⟨⟨(i + 1), by show (i + 1) ≤ a1.length; omega⟩, by show a1.length - (i + 1) < a1.length - i; omega, ?_, ?_⟩
     · show _ = object_oneLS a0 a1 (i + 1)
       unfold object_oneLS
       simp only [hw]
     · show (object_oneLT a0 a1 (i + 1)).All Q
       unfold object_oneLT at hT ⊢
       rw [hF] at hT
       exact hT
 · have hge : ¬ i < a1.length := by simpa using h0
   have hd : a1.drop i = [] := List.drop_eq_nil_of_le (by omega)
   have hF : object_oneLF a0 (a1.drop i) = false := by rw [hd]; first | exact rfl | simp only [object_oneLF, h0, cond_true, cond_false]
   unfold object_oneLT at hT
   rw [hF] at hT
   exact hT.2 rfl
def object_oneF (a0 : Int) (a1 : List Int) : Bool :=
 cond (object_oneLF a0 a1)
  true
  false
def object_oneR (a0 : Int) (a1 : List Int) : RT :=
 (.ask (object_oneLF a0 a1)
   (.leaf .ret ⟨slots 17 [(4, .bool true)], []⟩ [])
   (.leaf .ret ⟨slots 17 [(4, .bool false)], []⟩ []))
theorem object_oneF_tr (a0 : Int) (a1 : List Int) (hp0 : a1.length < 4611686018427387904) : Tr Try.prog 0 (bodyOf Try.f41) (fnBegins Try.f41 [.int .u8 a0, .coll ⟨.int .u8, a1⟩] []) (fnEnds Try.prog Try.f41 (.bool (object_oneF a0 a1)) []) := by
 refine Tr_tree (kok _ _ _ _ _ _) (E := E_object_one) (L := (loopsOf [(0, object_oneLS a0 a1 0, [], object_oneLT a0 a1 0)])) 60 9999 (LoopsOk.one (g := loopAt Try.f41 0) (b := 0) (by kernel_rfl) (by kernel_rfl) (by kernel_rfl) (by kernel_rfl) (fun Q h => object_oneL_loop a0 a1 hp0 (by first | assumption | omega | (simp only [List.length_cons, List.length_nil, List.length_append]; omega)) ⟨0, by first | exact Nat.zero_le _ | (show 0 ≤ a1.length; omega) | (show 0 ≤ a1.length; exact ⟨Nat.zero_le _, by assumption⟩) | (show 0 ≤ a1.length; simp)⟩ Q h)) (object_oneR a0 a1) (by kernel_rfl) (by kernel_rfl) (by kernel_rfl) ?_
 unfold object_oneR
 refine ⟨fun h0 => ?_, fun h0 => ?_⟩
 · have hF : object_oneF a0 a1 = true := by first | exact (cond_t h0 rfl) | simp only [object_oneF, h0, cond_true, cond_false]
   exact ⟨trivial, .inl (by first | (rw [hF]; kernel_rfl) | kernel_rfl), by first | (rw [hF]; kernel_rfl) | kernel_rfl⟩
 · have hF : object_oneF a0 a1 = false := by first | exact (cond_f h0 rfl) | simp only [object_oneF, h0, cond_true, cond_false]
   exact ⟨trivial, .inl (by first | (rw [hF]; kernel_rfl) | kernel_rfl), by first | (rw [hF]; kernel_rfl) | kernel_rfl⟩
noncomputable def object_one_fact : Fact Try.prog := factOf 41 Try.f41 (by kernel_rfl) rfl (by kernel_rfl) [.c (.int .u8), .c (.coll (.int .u8))] [] true (fun t u => .bool (object_oneF t.1 t.2.1)) (fun t u => []) (fun t u => [t.2.1.length < 4611686018427387904])
 (fun _ _ _ => rfl) (fun t u => by kernel_rfl) (fun t u => by kernel_rfl) (fun t u h => object_oneF_tr t.1 t.2.1 (h _ List.mem_cons_self))
noncomputable def E_object_Right : Env := envOf (P := Try.prog) [object_Name_fact, object_rest_fact, object_names_fact, object_Right_1_fact, strings_Contains_fact, object_one_fact, attF_fact] [] [] ckf
def object_RightF (a0 : XObj) : Bool :=
 cond (cond (cond (cond (cond (!(object_NameF a0.name)) true (!((((object_restF a0).kind) == a0.kind) && ((decide (((object_restF a0).name) = (⟨#[]⟩ : ByteArray))) && ((((object_restF a0).version) == (0 : Int)) && ((((object_restF a0).born) == (0 : Int)) && ((((object_restF a0).deleting) == false) && ((((object_restF a0).hold) == false) && ((decide (((object_restF a0).cls) = (⟨#[]⟩ : ByteArray))) && ((((object_restF a0).size) == (0 : Int)) && ((((object_restF a0).got) == (0 : Int)) && ((((object_restF a0).mode) == (0 : Int)) && ((((object_restF a0).keep) == false) && ((((object_restF a0).wait) == false) && ((decide (((object_restF a0).zone) = (⟨#[]⟩ : ByteArray))) && ((decide (((object_restF a0).node) = (⟨#[]⟩ : ByteArray))) && ((decide (((object_restF a0).claim) = (⟨#[]⟩ : ByteArray))) && ((decide (((object_restF a0).volume) = (⟨#[]⟩ : ByteArray))) && ((decide (((object_restF a0).source) = (⟨#[]⟩ : ByteArray))) && ((((object_restF a0).phase) == (0 : Int)) && ((((object_restF a0).num) == (0 : Int)) && (((object_restF a0).tag) == (0 : Int))))))))))))))))))))))) true (!(object_namesF [a0.cls, a0.zone, a0.node, a0.claim, a0.volume, a0.source]))) true (!(object_Right_1F a0.size))) true (!(object_Right_1F a0.got)))
  false
  (cond (a0.kind == (1 : Int))
    true
    (cond (a0.kind == (2 : Int))
      (cond (!(decide (a0.zone = (⟨#[]⟩ : ByteArray)))) (!(strings_ContainsF a0.name (⟨#[47]⟩ : ByteArray))) false)
      (cond (a0.kind == (3 : Int))
        (cond (cond (cond (!(decide (a0.cls = (⟨#[]⟩ : ByteArray)))) (decide (a0.size > (0 : Int))) false) (cond (a0.mode == (1 : Int)) true (a0.mode == (2 : Int))) false)
          (cond (object_oneF a0.phase [(1 : Int), (2 : Int), (3 : Int)]) ((a0.phase == (3 : Int)) == (!(decide (a0.volume = (⟨#[]⟩ : ByteArray))))) false)
          false)
        (cond (a0.kind == (4 : Int))
          (cond (cond (cond (cond (cond (!(decide (a0.cls = (⟨#[]⟩ : ByteArray)))) (!(decide (a0.zone = (⟨#[]⟩ : ByteArray)))) false) (decide (a0.size > (0 : Int))) false) (decide (a0.got > (0 : Int))) false) (cond (a0.mode == (1 : Int)) true (a0.mode == (2 : Int))) false) (cond (cond (object_oneF a0.phase [(3 : Int), (5 : Int)]) (!(decide (a0.claim = (⟨#[]⟩ : ByteArray)))) false) true (object_oneF a0.phase [(4 : Int), (6 : Int)])) false)
          (cond (a0.kind == (5 : Int))
            (cond (cond (cond (cond (!(decide (a0.volume = (⟨#[]⟩ : ByteArray)))) (!(decide (a0.node = (⟨#[]⟩ : ByteArray)))) false) (!(strings_ContainsF a0.node (⟨#[47]⟩ : ByteArray))) false) (decide (a0.name = (attF a0.volume a0.node))) false) (object_oneF a0.phase [(7 : Int), (8 : Int), (9 : Int)]) false)
            (cond (a0.kind == (6 : Int))
              (!(decide (a0.claim = (⟨#[]⟩ : ByteArray))))
              (cond (a0.kind == (7 : Int))
                (cond (!(decide (a0.source = (⟨#[]⟩ : ByteArray))))
                  (object_oneF a0.phase [(1 : Int), (10 : Int), (11 : Int), (6 : Int)])
                  false)
                false)))))))
def object_RightR (a0 : XObj) : RT :=
 (.need [a0.name.size < 4611686018427387904, ((cond (!(object_NameF a0.name)) true (!((((object_restF a0).kind) == a0.kind) && ((decide (((object_restF a0).name) = (⟨#[]⟩ : ByteArray))) && ((((object_restF a0).version) == (0 : Int)) && ((((object_restF a0).born) == (0 : Int)) && ((((object_restF a0).deleting) == false) && ((((object_restF a0).hold) == false) && ((decide (((object_restF a0).cls) = (⟨#[]⟩ : ByteArray))) && ((((object_restF a0).size) == (0 : Int)) && ((((object_restF a0).got) == (0 : Int)) && ((((object_restF a0).mode) == (0 : Int)) && ((((object_restF a0).keep) == false) && ((((object_restF a0).wait) == false) && ((decide (((object_restF a0).zone) = (⟨#[]⟩ : ByteArray))) && ((decide (((object_restF a0).node) = (⟨#[]⟩ : ByteArray))) && ((decide (((object_restF a0).claim) = (⟨#[]⟩ : ByteArray))) && ((decide (((object_restF a0).volume) = (⟨#[]⟩ : ByteArray))) && ((decide (((object_restF a0).source) = (⟨#[]⟩ : ByteArray))) && ((((object_restF a0).phase) == (0 : Int)) && ((((object_restF a0).num) == (0 : Int)) && (((object_restF a0).tag) == (0 : Int))))))))))))))))))))))) = false) → ([a0.cls, a0.zone, a0.node, a0.claim, a0.volume, a0.source].length < 4611686018427387904), ((cond (!(object_NameF a0.name)) true (!((((object_restF a0).kind) == a0.kind) && ((decide (((object_restF a0).name) = (⟨#[]⟩ : ByteArray))) && ((((object_restF a0).version) == (0 : Int)) && ((((object_restF a0).born) == (0 : Int)) && ((((object_restF a0).deleting) == false) && ((((object_restF a0).hold) == false) && ((decide (((object_restF a0).cls) = (⟨#[]⟩ : ByteArray))) && ((((object_restF a0).size) == (0 : Int)) && ((((object_restF a0).got) == (0 : Int)) && ((((object_restF a0).mode) == (0 : Int)) && ((((object_restF a0).keep) == false) && ((((object_restF a0).wait) == false) && ((decide (((object_restF a0).zone) = (⟨#[]⟩ : ByteArray))) && ((decide (((object_restF a0).node) = (⟨#[]⟩ : ByteArray))) && ((decide (((object_restF a0).claim) = (⟨#[]⟩ : ByteArray))) && ((decide (((object_restF a0).volume) = (⟨#[]⟩ : ByteArray))) && ((decide (((object_restF a0).source) = (⟨#[]⟩ : ByteArray))) && ((((object_restF a0).phase) == (0 : Int)) && ((((object_restF a0).num) == (0 : Int)) && (((object_restF a0).tag) == (0 : Int))))))))))))))))))))))) = false) → (∀ q ∈ [a0.cls, a0.zone, a0.node, a0.claim, a0.volume, a0.source], q.size < 4611686018427387904)]
   (.ask (cond (cond (cond (cond (!(object_NameF a0.name)) true (!((((object_restF a0).kind) == a0.kind) && ((decide (((object_restF a0).name) = (⟨#[]⟩ : ByteArray))) && ((((object_restF a0).version) == (0 : Int)) && ((((object_restF a0).born) == (0 : Int)) && ((((object_restF a0).deleting) == false) && ((((object_restF a0).hold) == false) && ((decide (((object_restF a0).cls) = (⟨#[]⟩ : ByteArray))) && ((((object_restF a0).size) == (0 : Int)) && ((((object_restF a0).got) == (0 : Int)) && ((((object_restF a0).mode) == (0 : Int)) && ((((object_restF a0).keep) == false) && ((((object_restF a0).wait) == false) && ((decide (((object_restF a0).zone) = (⟨#[]⟩ : ByteArray))) && ((decide (((object_restF a0).node) = (⟨#[]⟩ : ByteArray))) && ((decide (((object_restF a0).claim) = (⟨#[]⟩ : ByteArray))) && ((decide (((object_restF a0).volume) = (⟨#[]⟩ : ByteArray))) && ((decide (((object_restF a0).source) = (⟨#[]⟩ : ByteArray))) && ((((object_restF a0).phase) == (0 : Int)) && ((((object_restF a0).num) == (0 : Int)) && (((object_restF a0).tag) == (0 : Int))))))))))))))))))))))) true (!(object_namesF [a0.cls, a0.zone, a0.node, a0.claim, a0.volume, a0.source]))) true (!(object_Right_1F a0.size))) true (!(object_Right_1F a0.got)))
     (.leaf .ret ⟨slots 189 [(2, .bool false)], []⟩ [])
     (.ask (a0.kind == (1 : Int))
       (.leaf .ret ⟨slots 189 [(2, .bool true)], []⟩ [])
       (.ask (a0.kind == (2 : Int))
         (.need [((!(decide (a0.zone = (⟨#[]⟩ : ByteArray)))) = true) → ((⟨#[47]⟩ : ByteArray).size = 1)]
           (.leaf .ret ⟨slots 189 [(2, .bool (cond (!(decide (a0.zone = (⟨#[]⟩ : ByteArray)))) (!(strings_ContainsF a0.name (⟨#[47]⟩ : ByteArray))) false))], []⟩ []))
         (.ask (a0.kind == (3 : Int))
           (.ask (cond (cond (!(decide (a0.cls = (⟨#[]⟩ : ByteArray)))) (decide (a0.size > (0 : Int))) false) (cond (a0.mode == (1 : Int)) true (a0.mode == (2 : Int))) false)
             (.need [[(1 : Int), (2 : Int), (3 : Int)].length < 4611686018427387904]
               (.leaf .ret ⟨slots 189 [(2, .bool (cond (object_oneF a0.phase [(1 : Int), (2 : Int), (3 : Int)]) ((a0.phase == (3 : Int)) == (!(decide (a0.volume = (⟨#[]⟩ : ByteArray))))) false))], []⟩ []))
             (.leaf .ret ⟨slots 189 [(2, .bool false)], []⟩ []))
           (.ask (a0.kind == (4 : Int))
             (.need [[(3 : Int), (5 : Int)].length < 4611686018427387904]
               (.need [(((cond (cond (cond (cond (!(decide (a0.cls = (⟨#[]⟩ : ByteArray)))) (!(decide (a0.zone = (⟨#[]⟩ : ByteArray)))) false) (decide (a0.size > (0 : Int))) false) (decide (a0.got > (0 : Int))) false) (cond (a0.mode == (1 : Int)) true (a0.mode == (2 : Int))) false) = true) ∧ (cond (object_oneF a0.phase [(3 : Int), (5 : Int)]) (!(decide (a0.claim = (⟨#[]⟩ : ByteArray)))) false) = false) → ([(4 : Int), (6 : Int)].length < 4611686018427387904)]
                 (.leaf .ret ⟨slots 189 [(2, .bool (cond (cond (cond (cond (cond (!(decide (a0.cls = (⟨#[]⟩ : ByteArray)))) (!(decide (a0.zone = (⟨#[]⟩ : ByteArray)))) false) (decide (a0.size > (0 : Int))) false) (decide (a0.got > (0 : Int))) false) (cond (a0.mode == (1 : Int)) true (a0.mode == (2 : Int))) false) (cond (cond (object_oneF a0.phase [(3 : Int), (5 : Int)]) (!(decide (a0.claim = (⟨#[]⟩ : ByteArray)))) false) true (object_oneF a0.phase [(4 : Int), (6 : Int)])) false))], []⟩ [])))
             (.ask (a0.kind == (5 : Int))
               (.need [((cond (!(decide (a0.volume = (⟨#[]⟩ : ByteArray)))) (!(decide (a0.node = (⟨#[]⟩ : ByteArray)))) false) = true) → ((⟨#[47]⟩ : ByteArray).size = 1), ((cond (cond (!(decide (a0.volume = (⟨#[]⟩ : ByteArray)))) (!(decide (a0.node = (⟨#[]⟩ : ByteArray)))) false) (!(strings_ContainsF a0.node (⟨#[47]⟩ : ByteArray))) false) = true) → (a0.volume.size ≤ 140737488351232), ((cond (cond (!(decide (a0.volume = (⟨#[]⟩ : ByteArray)))) (!(decide (a0.node = (⟨#[]⟩ : ByteArray)))) false) (!(strings_ContainsF a0.node (⟨#[47]⟩ : ByteArray))) false) = true) → (a0.node.size ≤ 140737488351232), ((cond (cond (cond (!(decide (a0.volume = (⟨#[]⟩ : ByteArray)))) (!(decide (a0.node = (⟨#[]⟩ : ByteArray)))) false) (!(strings_ContainsF a0.node (⟨#[47]⟩ : ByteArray))) false) (decide (a0.name = (attF a0.volume a0.node))) false) = true) → ([(7 : Int), (8 : Int), (9 : Int)].length < 4611686018427387904)]
                 (.leaf .ret ⟨slots 189 [(2, .bool (cond (cond (cond (cond (!(decide (a0.volume = (⟨#[]⟩ : ByteArray)))) (!(decide (a0.node = (⟨#[]⟩ : ByteArray)))) false) (!(strings_ContainsF a0.node (⟨#[47]⟩ : ByteArray))) false) (decide (a0.name = (attF a0.volume a0.node))) false) (object_oneF a0.phase [(7 : Int), (8 : Int), (9 : Int)]) false))], []⟩ []))
               (.ask (a0.kind == (6 : Int))
                 (.leaf .ret ⟨slots 189 [(2, .bool (!(decide (a0.claim = (⟨#[]⟩ : ByteArray)))))], []⟩ [])
                 (.ask (a0.kind == (7 : Int))
                   (.ask (!(decide (a0.source = (⟨#[]⟩ : ByteArray))))
                     (.need [[(1 : Int), (10 : Int), (11 : Int), (6 : Int)].length < 4611686018427387904]
                       (.leaf .ret ⟨slots 189 [(2, .bool (object_oneF a0.phase [(1 : Int), (10 : Int), (11 : Int), (6 : Int)]))], []⟩ []))
                     (.leaf .ret ⟨slots 189 [(2, .bool false)], []⟩ []))
                   (.leaf .ret ⟨slots 189 [(2, .bool false)], []⟩ []))))))))))
theorem object_RightF_tr (a0 : XObj) (hp0 : a0.Fine) : Tr Try.prog 0 (bodyOf Try.f18) (fnBegins Try.f18 [.agg [.int .u8 a0.kind, .str a0.name, .int .u64 a0.version, .int .u64 a0.born, .bool a0.deleting, .bool a0.hold, .str a0.cls, .int .i64 a0.size, .int .i64 a0.got, .int .u8 a0.mode, .bool a0.keep, .bool a0.wait, .str a0.zone, .str a0.node, .str a0.claim, .str a0.volume, .str a0.source, .int .u8 a0.phase, .int .u64 a0.num, .int .u64 a0.tag]] []) (fnEnds Try.prog Try.f18 (.bool (object_RightF a0)) []) := by
 refine Tr_tree (kok _ _ _ _ _ _) (E := E_object_Right) (L := noLoops) 60 9999 LoopsOk.none (object_RightR a0) (by kernel_rfl) (by kernel_rfl) (by kernel_rfl) ?_
 unfold object_RightR
 refine ⟨need_cons (by (try refine fun (_ : _ = _) => ?_); (try refine fun (_ : _ ∧ _) => ?_); first | rfl | (have hz := hp0; unfold XObj.Fine at hz; omega) | exact fine_texts hp0 | exact hp0 | decide | (simp only [List.length_cons, List.length_nil]; omega)) (need_cons (by (try refine fun (_ : _ = _) => ?_); (try refine fun (_ : _ ∧ _) => ?_); first | rfl | (have hz := hp0; unfold XObj.Fine at hz; omega) | exact fine_texts hp0 | exact hp0 | decide | (simp only [List.length_cons, List.length_nil]; omega)) (need_cons (by (try refine fun (_ : _ = _) => ?_); (try refine fun (_ : _ ∧ _) => ?_); first | rfl | (have hz := hp0; unfold XObj.Fine at hz; omega) | exact fine_texts hp0 | exact hp0 | decide | (simp only [List.length_cons, List.length_nil]; omega)) (need_nil))), ?_⟩
 refine ⟨fun h0 => ?_, fun h0 => ?_⟩
 · have hF : object_RightF a0 = false := by first | exact (cond_t h0 rfl) | simp only [object_RightF, h0, cond_true, cond_false]
   exact ⟨trivial, .inl (by first | (rw [hF]; kernel_rfl) | kernel_rfl), by first | (rw [hF]; kernel_rfl) | kernel_rfl⟩
 · refine ⟨fun h1 => ?_, fun h1 => ?_⟩
   · have hF : object_RightF a0 = true := by first | exact (cond_f h0 (cond_t h1 rfl)) | simp only [object_RightF, h0, h1, cond_true, cond_false]
     exact ⟨trivial, .inl (by first | (rw [hF]; kernel_rfl) | kernel_rfl), by first | (rw [hF]; kernel_rfl) | kernel_rfl⟩
   · refine ⟨fun h2 => ?_, fun h2 => ?_⟩
     · refine ⟨need_cons (by (try refine fun (_ : _ = _) => ?_); (try refine fun (_ : _ ∧ _) => ?_); first | rfl | (have hz := hp0; unfold XObj.Fine at hz; omega) | exact fine_texts hp0 | exact hp0 | decide | (simp only [List.length_cons, List.length_nil]; omega)) (need_nil), ?_⟩
       have hF : object_RightF a0 = (cond (!(decide (a0.zone = (⟨#[]⟩ : ByteArray)))) (!(strings_ContainsF a0.name (⟨#[47]⟩ : ByteArray))) false) := by first | exact (cond_f h0 (cond_f h1 (cond_t h2 rfl))) | simp only [object_RightF, h0, h1, h2, cond_true, cond_false]
       exact ⟨trivial, .inl (by first | (rw [hF]; kernel_rfl) | kernel_rfl), by first | (rw [hF]; kernel_rfl) | kernel_rfl⟩
     · refine ⟨fun h3 => ?_, fun h3 => ?_⟩
       · refine ⟨fun h4 => ?_, fun h4 => ?_⟩
         · refine ⟨need_cons (by (try refine fun (_ : _ = _) => ?_); (try refine fun (_ : _ ∧ _) => ?_); first | rfl | (have hz := hp0; unfold XObj.Fine at hz; omega) | exact fine_texts hp0 | exact hp0 | decide | (simp only [List.length_cons, List.length_nil]; omega)) (need_nil), ?_⟩
           have hF : object_RightF a0 = (cond (object_oneF a0.phase [(1 : Int), (2 : Int), (3 : Int)]) ((a0.phase == (3 : Int)) == (!(decide (a0.volume = (⟨#[]⟩ : ByteArray))))) false) := by first | exact (cond_f h0 (cond_f h1 (cond_f h2 (cond_t h3 (cond_t h4 rfl))))) | simp only [object_RightF, h0, h1, h2, h3, h4, cond_true, cond_false]
           exact ⟨trivial, .inl (by first | (rw [hF]; kernel_rfl) | kernel_rfl), by first | (rw [hF]; kernel_rfl) | kernel_rfl⟩
         · have hF : object_RightF a0 = false := by first | exact (cond_f h0 (cond_f h1 (cond_f h2 (cond_t h3 (cond_f h4 rfl))))) | simp only [object_RightF, h0, h1, h2, h3, h4, cond_true, cond_false]
           exact ⟨trivial, .inl (by first | (rw [hF]; kernel_rfl) | kernel_rfl), by first | (rw [hF]; kernel_rfl) | kernel_rfl⟩
       · refine ⟨fun h4 => ?_, fun h4 => ?_⟩
         · refine ⟨need_cons (by (try refine fun (_ : _ = _) => ?_); (try refine fun (_ : _ ∧ _) => ?_); first | rfl | (have hz := hp0; unfold XObj.Fine at hz; omega) | exact fine_texts hp0 | exact hp0 | decide | (simp only [List.length_cons, List.length_nil]; omega)) (need_nil), ?_⟩
           refine ⟨need_cons (by (try refine fun (_ : _ = _) => ?_); (try refine fun (_ : _ ∧ _) => ?_); first | rfl | (have hz := hp0; unfold XObj.Fine at hz; omega) | exact fine_texts hp0 | exact hp0 | decide | (simp only [List.length_cons, List.length_nil]; omega)) (need_nil), ?_⟩
           have hF : object_RightF a0 = (cond (cond (cond (cond (cond (!(decide (a0.cls = (⟨#[]⟩ : ByteArray)))) (!(decide (a0.zone = (⟨#[]⟩ : ByteArray)))) false) (decide (a0.size > (0 : Int))) false) (decide (a0.got > (0 : Int))) false) (cond (a0.mode == (1 : Int)) true (a0.mode == (2 : Int))) false) (cond (cond (object_oneF a0.phase [(3 : Int), (5 : Int)]) (!(decide (a0.claim = (⟨#[]⟩ : ByteArray)))) false) true (object_oneF a0.phase [(4 : Int), (6 : Int)])) false) := by first | exact (cond_f h0 (cond_f h1 (cond_f h2 (cond_f h3 (cond_t h4 rfl))))) | simp only [object_RightF, h0, h1, h2, h3, h4, cond_true, cond_false]
           exact ⟨trivial, .inl (by first | (rw [hF]; kernel_rfl) | kernel_rfl), by first | (rw [hF]; kernel_rfl) | kernel_rfl⟩
         · refine ⟨fun h5 => ?_, fun h5 => ?_⟩
           · refine ⟨need_cons (by (try refine fun (_ : _ = _) => ?_); (try refine fun (_ : _ ∧ _) => ?_); first | rfl | (have hz := hp0; unfold XObj.Fine at hz; omega) | exact fine_texts hp0 | exact hp0 | decide | (simp only [List.length_cons, List.length_nil]; omega)) (need_cons (by (try refine fun (_ : _ = _) => ?_); (try refine fun (_ : _ ∧ _) => ?_); first | rfl | (have hz := hp0; unfold XObj.Fine at hz; omega) | exact fine_texts hp0 | exact hp0 | decide | (simp only [List.length_cons, List.length_nil]; omega)) (need_cons (by (try refine fun (_ : _ = _) => ?_); (try refine fun (_ : _ ∧ _) => ?_); first | rfl | (have hz := hp0; unfold XObj.Fine at hz; omega) | exact fine_texts hp0 | exact hp0 | decide | (simp only [List.length_cons, List.length_nil]; omega)) (need_cons (by (try refine fun (_ : _ = _) => ?_); (try refine fun (_ : _ ∧ _) => ?_); first | rfl | (have hz := hp0; unfold XObj.Fine at hz; omega) | exact fine_texts hp0 | exact hp0 | decide | (simp only [List.length_cons, List.length_nil]; omega)) (need_nil)))), ?_⟩
             have hF : object_RightF a0 = (cond (cond (cond (cond (!(decide (a0.volume = (⟨#[]⟩ : ByteArray)))) (!(decide (a0.node = (⟨#[]⟩ : ByteArray)))) false) (!(strings_ContainsF a0.node (⟨#[47]⟩ : ByteArray))) false) (decide (a0.name = (attF a0.volume a0.node))) false) (object_oneF a0.phase [(7 : Int), (8 : Int), (9 : Int)]) false) := by first | exact (cond_f h0 (cond_f h1 (cond_f h2 (cond_f h3 (cond_f h4 (cond_t h5 rfl)))))) | simp only [object_RightF, h0, h1, h2, h3, h4, h5, cond_true, cond_false]
             exact ⟨trivial, .inl (by first | (rw [hF]; kernel_rfl) | kernel_rfl), by first | (rw [hF]; kernel_rfl) | kernel_rfl⟩
           · refine ⟨fun h6 => ?_, fun h6 => ?_⟩
             · have hF : object_RightF a0 = (!(decide (a0.claim = (⟨#[]⟩ : ByteArray)))) := by first | exact (cond_f h0 (cond_f h1 (cond_f h2 (cond_f h3 (cond_f h4 (cond_f h5 (cond_t h6 rfl))))))) | simp only [object_RightF, h0, h1, h2, h3, h4, h5, h6, cond_true, cond_false]
               exact ⟨trivial, .inl (by first | (rw [hF]; kernel_rfl) | kernel_rfl), by first | (rw [hF]; kernel_rfl) | kernel_rfl⟩
             · refine ⟨fun h7 => ?_, fun h7 => ?_⟩
               · refine ⟨fun h8 => ?_, fun h8 => ?_⟩
                 · refine ⟨need_cons (by (try refine fun (_ : _ = _) => ?_); (try refine fun (_ : _ ∧ _) => ?_); first | rfl | (have hz := hp0; unfold XObj.Fine at hz; omega) | exact fine_texts hp0 | exact hp0 | decide | (simp only [List.length_cons, List.length_nil]; omega)) (need_nil), ?_⟩
                   have hF : object_RightF a0 = (object_oneF a0.phase [(1 : Int), (10 : Int), (11 : Int), (6 : Int)]) := by first | exact (cond_f h0 (cond_f h1 (cond_f h2 (cond_f h3 (cond_f h4 (cond_f h5 (cond_f h6 (cond_t h7 (cond_t h8 rfl))))))))) | simp only [object_RightF, h0, h1, h2, h3, h4, h5, h6, h7, h8, cond_true, cond_false]
                   exact ⟨trivial, .inl (by first | (rw [hF]; kernel_rfl) | kernel_rfl), by first | (rw [hF]; kernel_rfl) | kernel_rfl⟩
                 · have hF : object_RightF a0 = false := by first | exact (cond_f h0 (cond_f h1 (cond_f h2 (cond_f h3 (cond_f h4 (cond_f h5 (cond_f h6 (cond_t h7 (cond_f h8 rfl))))))))) | simp only [object_RightF, h0, h1, h2, h3, h4, h5, h6, h7, h8, cond_true, cond_false]
                   exact ⟨trivial, .inl (by first | (rw [hF]; kernel_rfl) | kernel_rfl), by first | (rw [hF]; kernel_rfl) | kernel_rfl⟩
               · have hF : object_RightF a0 = false := by first | exact (cond_f h0 (cond_f h1 (cond_f h2 (cond_f h3 (cond_f h4 (cond_f h5 (cond_f h6 (cond_f h7 rfl)))))))) | simp only [object_RightF, h0, h1, h2, h3, h4, h5, h6, h7, cond_true, cond_false]
                 exact ⟨trivial, .inl (by first | (rw [hF]; kernel_rfl) | kernel_rfl), by first | (rw [hF]; kernel_rfl) | kernel_rfl⟩
noncomputable def object_Right_fact : Fact Try.prog := factOf 18 Try.f18 (by kernel_rfl) rfl (by kernel_rfl) [.st .obj] [] true (fun t u => .bool (object_RightF t.1)) (fun t u => []) (fun t u => [t.1.Fine])
 (fun _ _ _ => rfl) (fun t u => by kernel_rfl) (fun t u => by kernel_rfl) (fun t u h => object_RightF_tr t.1 (h _ List.mem_cons_self))
end Go.Proofs.Ytbjifeobhenkfaa
