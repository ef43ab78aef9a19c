/- Topo: by hand: the library's strings.Index, Split, Join at a separator of one letter. -/
import Derived.Shelf.Lay
import Derived.Room.Shelf.Join48
import Derived.Shelf.Strings.Split
import Derived.Test.YtbjlmmeabonbpaaDoorDH0
import Derived.Test.YtbjlmmeabonbpaaDoorEE
namespace Go.Proofs
open Go.Shelf Go.RowKit Go.Sort Go.Lib
shelf_lay Lays.n156 Nm 156 at Tryd as Tryd.lays156
theorem Tryd.extra156 : Builder.Extra Tryd.prog Tryd.lays156_ren where
  sizeBuilder := by kernel_rfl
  liesBuilder := by kernel_rfl
  t5 := by kernel_rfl
  a5 := fun w => by kernel_rfl
  z5 := fun w => by kernel_rfl
  v5 := fun w => by kernel_rfl
  infoByte := by kernel_rfl
  cellsByte := by kernel_rfl
  sizeByte := by kernel_rfl
  neB5 := by decide
shelf_lay Lays.n219 Nm 219 at Tryd as Tryd.lays219
shelf_lay Lays.n146 Nm 146 at Tryd as Tryd.lays146
variable {P : Program} {ρ : Ren}
set_option maxHeartbeats 1000000 in
/-- strings.Split at a separator of one letter. -/
theorem Any.strings_Split_one (L : Lays.n146 P ρ) (hi9 : (P.info? (ρ.t 9)).map (fun i => (i.zero, i.size, i.bytes)) = some (some (.string ByteArray.empty), 1, 16)) (s sep : ByteArray) (w : World)
    (hs : s.size < 4294967281) (h1 : sep.size = 1) :
    Calls P (ρ.f 146) #[.string s, .string sep] w fun e w' =>
      e = .returned (.slice (some ⟨w.heap.size, 0, none⟩) (Lib.splitB sep 0 (Lib.countB s sep) s).length (Lib.countB s sep + 1)) ∧ (Lib.splitB sep 0 (Lib.countB s sep) s).length ≤ Lib.countB s sep + 1 ∧ w' = w.alloc (.cells ((Lib.splitB sep 0 (Lib.countB s sep) s).map Value.string).toArray (ρ.t 9)) := by
  have hle := Lib.countB_le sep (by omega) s.size s (Nat.le_refl _)
  have hlen := Lib.splitB_all sep (by omega) 0 _ s rfl
  have c : Calls P (ρ.f 221) #[.string s, .string sep, .int .i64 ((0 : Nat) : Int), .int .i64 (-1)] w fun e w' =>
      e = .returned (.slice (some ⟨w.heap.size, 0, none⟩) (Lib.splitB sep 0 (Lib.countB s sep + 1 - 1) s).length (Lib.countB s sep + 1)) ∧ w' = w.alloc (.cells (Lib.cellsOf (Lib.splitB sep 0 (Lib.countB s sep + 1 - 1) s) (Lib.countB s sep + 1)) (ρ.t 9)) := by
    obtain ⟨c, rfl⟩ := Lib.one_byte sep h1
    refine Any.strings_genSplit_core { L with } hi9 s ⟨#[c]⟩ 0 (-1) (Lib.countB s ⟨#[c]⟩ + 1) w hs (Nat.le_refl 1) (Nat.zero_le _) (fun x cs _ => ?_) ?_ (by decide) (by decide) (by rw [if_pos (by decide)]; omega)
    · refine (Any.strings_Index_one { L with } x c _).mono fun e w' ⟨he, hw⟩ => ⟨?_, hw⟩
      rw [he]
      show _ = Ending.returned (Value.int .i64 (Lib.index x.data.toList [c]))
      rw [Lib.index_one]
    · refine (Any.strings_Count_one { L with } s c w).mono fun e w' ⟨he, hw⟩ => ⟨?_, hw⟩
      rw [he]
      show _ = Ending.returned (Value.int .i64 ((Lib.count s.data.toList [c] : Nat) : Int))
      rw [Lib.count_one]
      rfl
  rw [Nat.add_sub_cancel] at c
  have e2 : Lib.cellsOf (Lib.splitB sep 0 (Lib.countB s sep) s) (Lib.countB s sep + 1) = ((Lib.splitB sep 0 (Lib.countB s sep) s).map Value.string).toArray := by rw [← hlen]; exact Lib.cellsOf_full _
  rw [e2] at c
  have t3 := L.t3; have t9 := L.t9; have t31 := L.t31
  have a3 := L.a3; have a9 := L.a9; have a31 := L.a31
  have z3 := L.z3; have v3 := L.v3; have z9 := L.z9; have v9 := L.v9; have z31 := L.z31; have v31 := L.v31
  have e221 : ∀ args w, (callFunc (ρ.f 221) args).run P w = .ok (.enter (ρ.f 221) args) w := enters_of L.f221 (by kernel_rfl) rfl
  go_enter L.f146, Body.n146_ntmps ρ
  go_wp2_with (go_at_fn (ρ.f 221); refine c.mono ?_; rintro e w' ⟨rfl, hw⟩; rw [hw])
  go_ret
  refine ⟨?_, by omega, rfl⟩
  rw [hlen]
  rfl
end Go.Proofs
namespace Go.Proofs.YtbjlmmeabonbpaaDoor
open Go Go.Eng Go.RowKit
/-- Where a letter stands. -/
def idx1 (s sep : ByteArray) : Int := Lib.indexB s sep
theorem idx1_calls (s sep : ByteArray) (h1 : sep.size = 1) (w : World) (vs : List Value) (ρ : Eng.Loc) (M : Mem) (hr : repL ρ M noG [.str s, .str sep] vs) :
    Calls Tryd.prog 85 ⟨vs⟩ w fun e w' => ∃ v, e = .returned v ∧ (∀ ρ M, rep ρ M noG (.int .i64 (idx1 s sep)) v) ∧ Below w.heap.size w w' := by
  match vs, hr with
  | [x, y], hr =>
    simp only [repL, rep, and_true] at hr
    obtain ⟨rfl, rfl⟩ := hr
    obtain ⟨c, rfl⟩ := Lib.one_byte sep h1
    refine (Any.stringslite_Index_one Tryd.lays219 s c w).mono ?_
    rintro e w' ⟨rfl, rfl⟩
    refine ⟨_, rfl, fun ρ M => ?_, Below.refl _ _⟩
    simp only [rep]
    show Value.int .i64 _ = Value.int .i64 (Lib.index s.data.toList [c])
    rw [Lib.index_one]
theorem idx1_cases (s sep : ByteArray) (h1 : sep.size = 1) : idx1 s sep = -1 ∨ ∃ i : Nat, idx1 s sep = i ∧ i + 1 ≤ s.size := by
  have h := Lib.indexB_cases s sep
  rw [h1] at h
  exact h
noncomputable def idx1_fact : Fact Tryd.prog := factBelow 85 Tryd.f85 (by kernel_rfl) rfl (by kernel_rfl) [.c .str, .c .str] (fun t => .int .i64 (idx1 t.1 t.2.1)) (fun t => [t.2.1.size = 1]) (fun _ _ => rfl) (fun _ _ => rfl)
  (fun t hp w vs ρ M _ hr => idx1_calls t.1 t.2.1 (hp _ List.mem_cons_self) w vs ρ M hr)
/-- A text cut at a letter. -/
def split1 (s sep : ByteArray) : List ByteArray := Lib.splitB sep 0 (Lib.countB s sep) s
theorem split1_calls (s sep : ByteArray) (hs : s.size ≤ 4294967280) (h1 : sep.size = 1) (w : World) (vs : List Value) (ρ : Eng.Loc) (M : Mem) (hr : repL ρ M noG [.str s, .str sep] vs) :
    Calls Tryd.prog 36 ⟨vs⟩ w fun e w' => ∃ b cap, e = .returned (.slice (some ⟨b, 0, none⟩) (split1 s sep).length cap) ∧ (split1 s sep).length ≤ cap ∧ w.heap.size ≤ b ∧ Below w.heap.size w w' ∧ ∀ (j : Nat) x, (split1 s sep)[j]? = some x → w'.cell? ⟨b, j, none⟩ = some (.string x) := by
  match vs, hr with
  | [x, y], hr =>
    simp only [repL, rep, and_true] at hr
    obtain ⟨rfl, rfl⟩ := hr
    refine (Any.strings_Split_one Tryd.lays146 (by kernel_rfl) s sep w (by omega) h1).mono ?_
    rintro e w' ⟨rfl, hle, rfl⟩
    refine ⟨_, _, rfl, hle, Nat.le_refl _, Below.alloc (Below.refl _ _) (Nat.le_refl _) _, fun j x hx => ?_⟩
    have hx' : (Lib.splitB sep 0 (Lib.countB s sep) s)[j]? = some x := hx
    have hb : (w.alloc (Obj.cells ((Lib.splitB sep 0 (Lib.countB s sep) s).map Value.string).toArray (Tryd.lays146_ren.t 9))).heap[w.heap.size]? = some (Obj.cells ((Lib.splitB sep 0 (Lib.countB s sep) s).map Value.string).toArray (Tryd.lays146_ren.t 9)) := by
      show (w.heap.push _)[w.heap.size]? = _
      exact Array.getElem?_push_size
    rw [cell_of_block (vs := (Lib.splitB sep 0 (Lib.countB s sep) s).map Value.string) hb, List.getElem?_map, hx']
    rfl
noncomputable def split1_fact : Fact Tryd.prog := factSound 36 Tryd.f36 (by kernel_rfl) rfl (by kernel_rfl) [.c .str, .c .str] (fun t => .coll ⟨.str, split1 t.1 t.2.1⟩) (fun t => [t.1.size ≤ 4294967280, t.2.1.size = 1]) (fun _ _ => rfl) (fun _ _ => rfl)
  (fun t hp hr nid => KSound.of_row (fun w vs ρ M _ _ h => split1_calls t.1 t.2.1 (hp _ List.mem_cons_self) (hp _ (List.mem_cons_of_mem _ List.mem_cons_self)) w vs ρ M h) hr nid)
/-- Texts put together. -/
def joinB (l : List ByteArray) (sep : ByteArray) : ByteArray := ⟨(Lib.join (l.map (·.data.toList)) sep.data.toList).toArray⟩
theorem joinB_calls (l : List ByteArray) (sep : ByteArray) (hl : l.length ≤ 4294967296) (hj : (joinB l sep).size ≤ 4294967296) (w : World) (vs : List Value) (ρ : Eng.Loc) (M : Mem) (hm : ∀ b o v, M b o = some v → w.cell? ⟨b, o, none⟩ = some v) (hr : repL ρ M noG [.coll ⟨.str, l⟩, .str sep] vs) :
    Calls Tryd.prog 51 ⟨vs⟩ w fun e w' => ∃ v, e = .returned v ∧ (∀ ρ M, rep ρ M noG (.str (joinB l sep)) v) ∧ Below w.heap.size w w' := by
  match vs, hr with
  | [x, y], hr =>
    simp only [repL, and_true] at hr
    obtain ⟨hx, hy⟩ := hr
    simp only [rep] at hy
    subst hy
    obtain ⟨a, cap, rfl, hcap, hrd⟩ := strs_read hm hx
    have hjl : (Lib.join (l.map (·.data.toList)) sep.data.toList).length ≤ 4294967296 := by
      have : (joinB l sep).size = (Lib.join (l.map (·.data.toList)) sep.data.toList).length := by
        show (Lib.join (l.map (·.data.toList)) sep.data.toList).toArray.size = _
        simp
      omega
    rcases Nat.eq_zero_or_pos l.length with h0 | h0
    · have e0 : l = [] := List.eq_nil_of_length_eq_zero h0
      subst e0
      refine (Any.strings_Join_none Tryd.lays156 Tryd.extra156 a cap sep w).mono ?_
      rintro e w' ⟨rfl, rfl⟩
      refine ⟨_, rfl, fun ρ M => ?_, Below.refl _ _⟩
      simp only [rep]
      rfl
    · obtain ⟨b, o, rfl, hb, hc⟩ := hrd h0
      refine (Any.strings_Join_48 Tryd.lays156 Tryd.extra156 b o cap l sep w hc hb (by omega) hcap (by omega)).mono ?_
      rintro e w' ⟨rfl, hbw⟩
      refine ⟨_, rfl, fun ρ M => ?_, hbw⟩
      simp only [rep]
      rfl
noncomputable def joinB_fact : Fact Tryd.prog := factSound 51 Tryd.f51 (by kernel_rfl) rfl (by kernel_rfl) [.c (.coll .str), .c .str] (fun t => .str (joinB t.1 t.2.1)) (fun t => [t.1.length ≤ 4294967296, (joinB t.1 t.2.1).size ≤ 4294967296]) (fun _ _ => rfl) (fun _ _ => by simp [ren])
  (fun t hp hr nid => KSound.of_belowM (fun w vs ρ M _ hm h => joinB_calls t.1 t.2.1 (hp _ List.mem_cons_self) (hp _ (List.mem_cons_of_mem _ List.mem_cons_self)) w vs ρ M hm h) hr nid)
end Go.Proofs.YtbjlmmeabonbpaaDoor
