/- Topo: by hand: the library's strings.Index, Split, Join at a separator of one letter. -/
import Derived.Room.Shelf.Join48
import Derived.Shelf.Strings.Split
import Derived.Test.YtbjlmmeabonbpaaDoorDH0
import Derived.Test.YtbjlmmeabonbpaaDoorEE
set_option linter.unusedVariables false
set_option linter.unusedSimpArgs false
namespace Go.Proofs
open Go.Shelf Go.RowKit Go.Sort Go.Lib
def Tryd.lays156_ren : Go.Shelf.Ren := ⟨fun | 156 => 51 | 165 => 76 | 166 => 77 | 169 => 78 | 240 => 86 | 241 => 87 | 276 => 106 | 277 => 107 | n => n, fun | 31 => 64 | 9 => 9 | 3 => 3 | 4 => 4 | 0 => 0 | 20 => 20 | 72 => 103 | 76 => 107 | 70 => 101 | 37 => 59 | 75 => 106 | 127 => 116 | 164 => 135 | 5 => 5 | 80 => 109 | n => n, fun | n => n⟩
theorem Tryd.lays156 : Go.Proofs.Lays.n156 Tryd.prog Tryd.lays156_ren := {
  mixed := by kernel_rfl
  f156 := Tryd.func51.trans (congrArg some (by kernel_rfl))
  f165 := Tryd.func76.trans (congrArg some (by kernel_rfl))
  f166 := Tryd.func77.trans (congrArg some (by kernel_rfl))
  f169 := Tryd.func78.trans (congrArg some (by kernel_rfl))
  f240 := Tryd.func86.trans (congrArg some (by kernel_rfl))
  f241 := Tryd.func87.trans (congrArg some (by kernel_rfl))
  f276 := Tryd.func106.trans (congrArg some (by kernel_rfl))
  f277 := Tryd.func107.trans (congrArg some (by kernel_rfl))
  t0 := Tryd.underlying0
  a0 := Tryd.isAgg0
  z0 := Tryd.sizeOf0
  v0 := Tryd.zeroValue0
  t3 := Tryd.underlying3
  a3 := Tryd.isAgg3
  z3 := Tryd.sizeOf3
  v3 := Tryd.zeroValue3
  t4 := Tryd.underlying4
  a4 := Tryd.isAgg4
  z4 := Tryd.sizeOf4
  v4 := Tryd.zeroValue4
  t9 := Tryd.underlying9
  a9 := Tryd.isAgg9
  z9 := Tryd.sizeOf9
  v9 := Tryd.zeroValue9
  t20 := Tryd.underlying20
  a20 := Tryd.isAgg20
  z20 := Tryd.sizeOf20
  v20 := Tryd.zeroValue20
  t31 := Tryd.underlying64
  a31 := Tryd.isAgg64
  z31 := Tryd.sizeOf64
  v31 := Tryd.zeroValue64
  t37 := Tryd.underlying59
  a37 := Tryd.isAgg59
  z37 := Tryd.sizeOf59
  v37 := Tryd.zeroValue59
  t70 := Tryd.underlying101
  a70 := Tryd.isAgg101
  z70 := Tryd.sizeOf101
  v70 := Tryd.zeroValue101
  t72 := Tryd.underlying103
  a72 := Tryd.isAgg103
  z72 := Tryd.sizeOf103
  v72 := Tryd.zeroValue103
  t75 := Tryd.underlying106
  a75 := Tryd.isAgg106
  z75 := Tryd.sizeOf106
  v75 := Tryd.zeroValue106
  t76 := Tryd.underlying107
  a76 := Tryd.isAgg107
  z76 := Tryd.sizeOf107
  v76 := Tryd.zeroValue107
  t127 := Tryd.underlying116
  a127 := Tryd.isAgg116
  z127 := Tryd.sizeOf116
  v127 := Tryd.zeroValue116
  t164 := Tryd.underlying135
  a164 := Tryd.isAgg135
  z164 := Tryd.sizeOf135
  v164 := Tryd.zeroValue135 }
theorem Tryd.extra156 : Builder.Extra Tryd.prog Tryd.lays156_ren where
  sizeBuilder := by kernel_rfl
  liesBuilder := by kernel_rfl
  t5 := by kernel_rfl
  a5 := fun w => by kernel_rfl
  z5 := fun w => by kernel_rfl
  v5 := fun w => by kernel_rfl
  infoByte := by kernel_rfl
  cellsByte := by kernel_rfl
  sizeByte := by kernel_rfl
  neB5 := by decide
def Tryd.lays219_ren : Go.Shelf.Ren := ⟨fun | 219 => 85 | 217 => 102 | 225 => 103 | 224 => 104 | 267 => 105 | 266 => 115 | 314 => 116 | n => n, fun | 9 => 9 | 3 => 3 | 4 => 4 | 5 => 5 | 46 => 112 | 146 => 144 | 51 => 127 | n => n, fun | 1 => 0 | n => n⟩
theorem Tryd.lays219 : Go.Proofs.Lays.n219 Tryd.prog Tryd.lays219_ren := {
  mixed := by kernel_rfl
  f217 := Tryd.func102.trans (congrArg some (by kernel_rfl))
  f219 := Tryd.func85.trans (congrArg some (by kernel_rfl))
  f224 := Tryd.func104.trans (congrArg some (by kernel_rfl))
  f225 := Tryd.func103.trans (congrArg some (by kernel_rfl))
  f266 := Tryd.func115.trans (congrArg some (by kernel_rfl))
  f267 := Tryd.func105.trans (congrArg some (by kernel_rfl))
  f314 := Tryd.func116.trans (congrArg some (by kernel_rfl))
  t3 := Tryd.underlying3
  a3 := Tryd.isAgg3
  z3 := Tryd.sizeOf3
  v3 := Tryd.zeroValue3
  t4 := Tryd.underlying4
  a4 := Tryd.isAgg4
  z4 := Tryd.sizeOf4
  v4 := Tryd.zeroValue4
  t5 := Tryd.underlying5
  a5 := Tryd.isAgg5
  z5 := Tryd.sizeOf5
  v5 := Tryd.zeroValue5
  t9 := Tryd.underlying9
  a9 := Tryd.isAgg9
  z9 := Tryd.sizeOf9
  v9 := Tryd.zeroValue9
  t46 := Tryd.underlying112
  a46 := Tryd.isAgg112
  z46 := Tryd.sizeOf112
  v46 := Tryd.zeroValue112
  t51 := Tryd.underlying127
  a51 := Tryd.isAgg127
  z51 := Tryd.sizeOf127
  v51 := Tryd.zeroValue127
  t146 := Tryd.underlying144
  a146 := Tryd.isAgg144
  z146 := Tryd.sizeOf144
  v146 := Tryd.zeroValue144
  g1 := by kernel_rfl }
def Tryd.lays146_ren : Go.Shelf.Ren := ⟨fun | 146 => 36 | 221 => 67 | 268 => 82 | 138 => 83 | 143 => 84 | 195 => 99 | 197 => 100 | 218 => 101 | 219 => 85 | 260 => 114 | 217 => 102 | 225 => 103 | 224 => 104 | 267 => 105 | 266 => 115 | 314 => 116 | n => n, fun | 9 => 9 | 31 => 64 | 3 => 3 | 4 => 4 | 0 => 0 | 105 => 131 | 21 => 21 | 5 => 5 | 46 => 112 | 119 => 149 | 139 => 152 | 138 => 151 | 146 => 144 | 51 => 127 | n => n, fun | 1 => 0 | 3 => 1 | 4 => 2 | n => n⟩
theorem Tryd.lays146 : Go.Proofs.Lays.n146 Tryd.prog Tryd.lays146_ren := {
  mixed := by kernel_rfl
  f138 := Tryd.func83.trans (congrArg some (by kernel_rfl))
  f143 := Tryd.func84.trans (congrArg some (by kernel_rfl))
  f146 := Tryd.func36.trans (congrArg some (by kernel_rfl))
  f195 := Tryd.func99.trans (congrArg some (by kernel_rfl))
  f197 := Tryd.func100.trans (congrArg some (by kernel_rfl))
  f217 := Tryd.func102.trans (congrArg some (by kernel_rfl))
  f218 := Tryd.func101.trans (congrArg some (by kernel_rfl))
  f219 := Tryd.func85.trans (congrArg some (by kernel_rfl))
  f221 := Tryd.func67.trans (congrArg some (by kernel_rfl))
  f224 := Tryd.func104.trans (congrArg some (by kernel_rfl))
  f225 := Tryd.func103.trans (congrArg some (by kernel_rfl))
  f260 := Tryd.func114.trans (congrArg some (by kernel_rfl))
  f266 := Tryd.func115.trans (congrArg some (by kernel_rfl))
  f267 := Tryd.func105.trans (congrArg some (by kernel_rfl))
  f268 := Tryd.func82.trans (congrArg some (by kernel_rfl))
  f314 := Tryd.func116.trans (congrArg some (by kernel_rfl))
  t0 := Tryd.underlying0
  a0 := Tryd.isAgg0
  z0 := Tryd.sizeOf0
  v0 := Tryd.zeroValue0
  t3 := Tryd.underlying3
  a3 := Tryd.isAgg3
  z3 := Tryd.sizeOf3
  v3 := Tryd.zeroValue3
  t4 := Tryd.underlying4
  a4 := Tryd.isAgg4
  z4 := Tryd.sizeOf4
  v4 := Tryd.zeroValue4
  t5 := Tryd.underlying5
  a5 := Tryd.isAgg5
  z5 := Tryd.sizeOf5
  v5 := Tryd.zeroValue5
  t9 := Tryd.underlying9
  a9 := Tryd.isAgg9
  z9 := Tryd.sizeOf9
  v9 := Tryd.zeroValue9
  t21 := Tryd.underlying21
  a21 := Tryd.isAgg21
  z21 := Tryd.sizeOf21
  v21 := Tryd.zeroValue21
  t31 := Tryd.underlying64
  a31 := Tryd.isAgg64
  z31 := Tryd.sizeOf64
  v31 := Tryd.zeroValue64
  t46 := Tryd.underlying112
  a46 := Tryd.isAgg112
  z46 := Tryd.sizeOf112
  v46 := Tryd.zeroValue112
  t51 := Tryd.underlying127
  a51 := Tryd.isAgg127
  z51 := Tryd.sizeOf127
  v51 := Tryd.zeroValue127
  t105 := Tryd.underlying131
  a105 := Tryd.isAgg131
  z105 := Tryd.sizeOf131
  v105 := Tryd.zeroValue131
  t119 := Tryd.underlying149
  a119 := Tryd.isAgg149
  z119 := Tryd.sizeOf149
  t138 := Tryd.underlying151
  a138 := Tryd.isAgg151
  z138 := Tryd.sizeOf151
  v138 := Tryd.zeroValue151
  t139 := Tryd.underlying152
  a139 := Tryd.isAgg152
  z139 := Tryd.sizeOf152
  v139 := Tryd.zeroValue152
  t146 := Tryd.underlying144
  a146 := Tryd.isAgg144
  z146 := Tryd.sizeOf144
  v146 := Tryd.zeroValue144
  g1 := by kernel_rfl
  g3 := by kernel_rfl
  g4 := by kernel_rfl }
variable {P : Program} {ρ : Ren}
set_option maxHeartbeats 1000000 in
/-- strings.Split at a separator of one letter. -/
theorem Any.strings_Split_one (L : Lays.n146 P ρ) (hi9 : (P.info? (ρ.t 9)).map (fun i => (i.zero, i.size, i.bytes)) = some (some (.string ByteArray.empty), 1, 16)) (s sep : ByteArray) (w : World)
    (hs : s.size < 4294967281) (h1 : sep.size = 1) :
    Calls P (ρ.f 146) #[.string s, .string sep] w fun e w' =>
      e = .returned (.slice (some ⟨w.heap.size, 0, none⟩) (Lib.splitB sep 0 (Lib.countB s sep) s).length (Lib.countB s sep + 1)) ∧ (Lib.splitB sep 0 (Lib.countB s sep) s).length ≤ Lib.countB s sep + 1 ∧ w' = w.alloc (.cells ((Lib.splitB sep 0 (Lib.countB s sep) s).map Value.string).toArray (ρ.t 9)) := by
  have hle := Lib.countB_le sep (by omega) s.size s (Nat.le_refl _)
  have hlen := Lib.splitB_all sep (by omega) 0 _ s rfl
  have c : Calls P (ρ.f 221) #[.string s, .string sep, .int .i64 ((0 : Nat) : Int), .int .i64 (-1)] w fun e w' =>
      e = .returned (.slice (some ⟨w.heap.size, 0, none⟩) (Lib.splitB sep 0 (Lib.countB s sep + 1 - 1) s).length (Lib.countB s sep + 1)) ∧ w' = w.alloc (.cells (Lib.cellsOf (Lib.splitB sep 0 (Lib.countB s sep + 1 - 1) s) (Lib.countB s sep + 1)) (ρ.t 9)) := by
    obtain ⟨c, rfl⟩ := Lib.one_byte sep h1
    refine Any.strings_genSplit_core { L with } hi9 s ⟨#[c]⟩ 0 (-1) (Lib.countB s ⟨#[c]⟩ + 1) w hs (Nat.le_refl 1) (Nat.zero_le _) (fun x cs _ => ?_) ?_ (by decide) (by decide) (by rw [if_pos (by decide)]; omega)
    · refine (Any.strings_Index_one { L with } x c _).mono fun e w' ⟨he, hw⟩ => ⟨?_, hw⟩
      rw [he]
      show _ = Ending.returned (Value.int .i64 (Lib.index x.data.toList [c]))
      rw [Lib.index_one]
    · refine (Any.strings_Count_one { L with } s c w).mono fun e w' ⟨he, hw⟩ => ⟨?_, hw⟩
      rw [he]
      show _ = Ending.returned (Value.int .i64 ((Lib.count s.data.toList [c] : Nat) : Int))
      rw [Lib.count_one]
      rfl
  rw [Nat.add_sub_cancel] at c
  have e2 : Lib.cellsOf (Lib.splitB sep 0 (Lib.countB s sep) s) (Lib.countB s sep + 1) = ((Lib.splitB sep 0 (Lib.countB s sep) s).map Value.string).toArray := by rw [← hlen]; exact Lib.cellsOf_full _
  rw [e2] at c
  have t3 := L.t3; have t9 := L.t9; have t31 := L.t31
  have a3 := L.a3; have a9 := L.a9; have a31 := L.a31
  have z3 := L.z3; have v3 := L.v3; have z9 := L.z9; have v9 := L.v9; have z31 := L.z31; have v31 := L.v31
  have e221 : ∀ args w, (callFunc (ρ.f 221) args).run P w = .ok (.enter (ρ.f 221) args) w := enters_of L.f221 (by kernel_rfl) rfl
  go_enter L.f146, Body.n146_ntmps ρ
  go_wp2_with (go_at_fn (ρ.f 221); refine c.mono ?_; rintro e w' ⟨rfl, hw⟩; rw [hw])
  go_ret
  refine ⟨?_, by omega, rfl⟩
  rw [hlen]
  rfl
end Go.Proofs
namespace Go.Proofs.YtbjlmmeabonbpaaDoor
open Go Go.Eng Go.RowKit
/-- Where a letter stands. -/
def idx1 (s sep : ByteArray) : Int := Lib.indexB s sep
theorem idx1_calls (s sep : ByteArray) (h1 : sep.size = 1) (w : World) (vs : List Value) (ρ : Eng.Loc) (M : Mem) (hr : repL ρ M noG [.str s, .str sep] vs) :
    Calls Tryd.prog 85 ⟨vs⟩ w fun e w' => ∃ v, e = .returned v ∧ (∀ ρ M, rep ρ M noG (.int .i64 (idx1 s sep)) v) ∧ Below w.heap.size w w' := by
  match vs, hr with
  | [x, y], hr =>
    simp only [repL, rep, and_true] at hr
    obtain ⟨rfl, rfl⟩ := hr
    obtain ⟨c, rfl⟩ := Lib.one_byte sep h1
    refine (Any.stringslite_Index_one Tryd.lays219 s c w).mono ?_
    rintro e w' ⟨rfl, rfl⟩
    refine ⟨_, rfl, fun ρ M => ?_, Below.refl _ _⟩
    simp only [rep]
    show Value.int .i64 _ = Value.int .i64 (Lib.index s.data.toList [c])
    rw [Lib.index_one]
theorem idx1_cases (s sep : ByteArray) (h1 : sep.size = 1) : idx1 s sep = -1 ∨ ∃ i : Nat, idx1 s sep = i ∧ i + 1 ≤ s.size := by
  have h := Lib.indexB_cases s sep
  rw [h1] at h
  exact h
noncomputable def idx1_fact : Fact Tryd.prog := factBelow 85 Tryd.f85 (by kernel_rfl) rfl (by kernel_rfl) [.c .str, .c .str] (fun t => .int .i64 (idx1 t.1 t.2.1)) (fun t => [t.2.1.size = 1]) (fun _ _ => rfl) (fun _ _ => rfl)
  (fun t hp w vs ρ M _ hr => idx1_calls t.1 t.2.1 (hp _ List.mem_cons_self) w vs ρ M hr)
/-- A text cut at a letter. -/
def split1 (s sep : ByteArray) : List ByteArray := Lib.splitB sep 0 (Lib.countB s sep) s
theorem split1_calls (s sep : ByteArray) (hs : s.size ≤ 4294967280) (h1 : sep.size = 1) (w : World) (vs : List Value) (ρ : Eng.Loc) (M : Mem) (hr : repL ρ M noG [.str s, .str sep] vs) :
    Calls Tryd.prog 36 ⟨vs⟩ w fun e w' => ∃ b cap, e = .returned (.slice (some ⟨b, 0, none⟩) (split1 s sep).length cap) ∧ (split1 s sep).length ≤ cap ∧ w.heap.size ≤ b ∧ Below w.heap.size w w' ∧ ∀ (j : Nat) x, (split1 s sep)[j]? = some x → w'.cell? ⟨b, j, none⟩ = some (.string x) := by
  match vs, hr with
  | [x, y], hr =>
    simp only [repL, rep, and_true] at hr
    obtain ⟨rfl, rfl⟩ := hr
    refine (Any.strings_Split_one Tryd.lays146 (by kernel_rfl) s sep w (by omega) h1).mono ?_
    rintro e w' ⟨rfl, hle, rfl⟩
    refine ⟨_, _, rfl, hle, Nat.le_refl _, Below.alloc (Below.refl _ _) (Nat.le_refl _) _, fun j x hx => ?_⟩
    have hx' : (Lib.splitB sep 0 (Lib.countB s sep) s)[j]? = some x := hx
    have hb : (w.alloc (Obj.cells ((Lib.splitB sep 0 (Lib.countB s sep) s).map Value.string).toArray (Tryd.lays146_ren.t 9))).heap[w.heap.size]? = some (Obj.cells ((Lib.splitB sep 0 (Lib.countB s sep) s).map Value.string).toArray (Tryd.lays146_ren.t 9)) := by
      show (w.heap.push _)[w.heap.size]? = _
      exact Array.getElem?_push_size
    rw [cell_of_block (vs := (Lib.splitB sep 0 (Lib.countB s sep) s).map Value.string) hb, List.getElem?_map, hx']
    rfl
noncomputable def split1_fact : Fact Tryd.prog := factSound 36 Tryd.f36 (by kernel_rfl) rfl (by kernel_rfl) [.c .str, .c .str] (fun t => .coll ⟨.str, split1 t.1 t.2.1⟩) (fun t => [t.1.size ≤ 4294967280, t.2.1.size = 1]) (fun _ _ => rfl) (fun _ _ => rfl)
  (fun t hp hr nid => KSound.of_row (fun w vs ρ M _ _ h => split1_calls t.1 t.2.1 (hp _ List.mem_cons_self) (hp _ (List.mem_cons_of_mem _ List.mem_cons_self)) w vs ρ M h) hr nid)
/-- Texts put together. -/
def joinB (l : List ByteArray) (sep : ByteArray) : ByteArray := ⟨(Lib.join (l.map (·.data.toList)) sep.data.toList).toArray⟩
theorem joinB_calls (l : List ByteArray) (sep : ByteArray) (hl : l.length ≤ 4294967296) (hj : (joinB l sep).size ≤ 4294967296) (w : World) (vs : List Value) (ρ : Eng.Loc) (M : Mem) (hm : ∀ b o v, M b o = some v → w.cell? ⟨b, o, none⟩ = some v) (hr : repL ρ M noG [.coll ⟨.str, l⟩, .str sep] vs) :
    Calls Tryd.prog 51 ⟨vs⟩ w fun e w' => ∃ v, e = .returned v ∧ (∀ ρ M, rep ρ M noG (.str (joinB l sep)) v) ∧ Below w.heap.size w w' := by
  match vs, hr with
  | [x, y], hr =>
    simp only [repL, and_true] at hr
    obtain ⟨hx, hy⟩ := hr
    simp only [rep] at hy
    subst hy
    obtain ⟨a, cap, rfl, hcap, hrd⟩ := strs_read hm hx
    have hjl : (Lib.join (l.map (·.data.toList)) sep.data.toList).length ≤ 4294967296 := by
      have : (joinB l sep).size = (Lib.join (l.map (·.data.toList)) sep.data.toList).length := by
        show (Lib.join (l.map (·.data.toList)) sep.data.toList).toArray.size = _
        simp
      omega
    rcases Nat.eq_zero_or_pos l.length with h0 | h0
    · have e0 : l = [] := List.eq_nil_of_length_eq_zero h0
      subst e0
      refine (Any.strings_Join_none Tryd.lays156 Tryd.extra156 a cap sep w).mono ?_
      rintro e w' ⟨rfl, rfl⟩
      refine ⟨_, rfl, fun ρ M => ?_, Below.refl _ _⟩
      simp only [rep]
      rfl
    · obtain ⟨b, o, rfl, hb, hc⟩ := hrd h0
      refine (Any.strings_Join_48 Tryd.lays156 Tryd.extra156 b o cap l sep w hc hb (by omega) hcap (by omega)).mono ?_
      rintro e w' ⟨rfl, hbw⟩
      refine ⟨_, rfl, fun ρ M => ?_, hbw⟩
      simp only [rep]
      rfl
noncomputable def joinB_fact : Fact Tryd.prog := factSound 51 Tryd.f51 (by kernel_rfl) rfl (by kernel_rfl) [.c (.coll .str), .c .str] (fun t => .str (joinB t.1 t.2.1)) (fun t => [t.1.length ≤ 4294967296, (joinB t.1 t.2.1).size ≤ 4294967296]) (fun _ _ => rfl) (fun _ _ => by simp [ren])
  (fun t hp hr nid => KSound.of_belowM (fun w vs ρ M _ hm h => joinB_calls t.1 t.2.1 (hp _ List.mem_cons_self) (hp _ (List.mem_cons_of_mem _ List.mem_cons_self)) w vs ρ M hm h) hr nid)
end Go.Proofs.YtbjlmmeabonbpaaDoor
