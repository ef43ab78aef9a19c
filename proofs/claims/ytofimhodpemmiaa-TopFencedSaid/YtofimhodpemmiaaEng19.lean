/- The engine, part 19: what is known of the elements of arguments. -/
import Derived.Test.YtofimhodpemmiaaEng18
namespace Go.Eng

theorem wf_i64 {n : Int} (h : (Lit.int .i64 n).wf = true) : -9223372036854775808 ≤ n ∧ n ≤ 9223372036854775807 := by
  simp [Lit.wf, IntKind.min, IntKind.max, IntKind.signed, IntKind.bits] at h; omega
theorem wf_i32 {n : Int} (h : (Lit.int .i32 n).wf = true) : -2147483648 ≤ n ∧ n ≤ 2147483647 := by
  simp [Lit.wf, IntKind.min, IntKind.max, IntKind.signed, IntKind.bits] at h; omega
theorem wf_u64 {n : Int} (h : (Lit.int .u64 n).wf = true) : 0 ≤ n ∧ n ≤ 18446744073709551615 := by
  simp [Lit.wf, IntKind.min, IntKind.max, IntKind.signed, IntKind.bits] at h; omega
theorem wf_u32 {n : Int} (h : (Lit.int .u32 n).wf = true) : 0 ≤ n ∧ n ≤ 4294967295 := by
  simp [Lit.wf, IntKind.min, IntKind.max, IntKind.signed, IntKind.bits] at h; omega
theorem wf_u16 {n : Int} (h : (Lit.int .u16 n).wf = true) : 0 ≤ n ∧ n ≤ 65535 := by
  simp [Lit.wf, IntKind.min, IntKind.max, IntKind.signed, IntKind.bits] at h; omega
theorem wf_u8 {n : Int} (h : (Lit.int .u8 n).wf = true) : 0 ≤ n ∧ n ≤ 255 := by
  simp [Lit.wf, IntKind.min, IntKind.max, IntKind.signed, IntKind.bits] at h; omega
theorem reach_lt : reachBytes < 9223372036854775807 := by decide
theorem getD_mem {α : Type} {l : List α} {x d : α} (h : x ∈ l) : ∃ i, i < l.length ∧ l.getD i d = x := by
  obtain ⟨i, hi, rfl⟩ := List.mem_iff_getElem.1 h
  exact ⟨i, hi, by simp [List.getD_eq_getElem?_getD, List.getElem?_eq_getElem hi]⟩
theorem Fits.ints_inv {k : IntKind} {x : AV} (h : Fits (.row (.ints k)) x) : ∃ l, x = .coll (.ints k l) ∧ l.length ≤ reachBytes ∧ ∀ n ∈ l, (Lit.int k n).wf = true := by
  cases h with
  | row h hl he =>
    rename_i c
    cases c <;> simp [Coll.kind] at h
    rename_i k' l
    subst h
    refine ⟨l, rfl, hl, fun n hn => ?_⟩
    obtain ⟨i, hi, rfl⟩ := getD_mem (d := default) hn
    obtain ⟨m, h1, h2⟩ := (he i 0 (.int k') _ hi rfl rfl).int_inv
    injection h1 with _ h1
    rw [h1]
    exact h2
theorem Fits.bools_inv {x : AV} (h : Fits (.row .bools) x) : ∃ l, x = .coll (.bools l) ∧ l.length ≤ reachBytes := by
  cases h with
  | row h hl he =>
    rename_i c
    cases c <;> simp [Coll.kind] at h
    exact ⟨_, rfl, hl⟩
theorem Fits.strsB {x : AV} (h : Fits (.row .strs) x) : ∃ l, x = .coll (.strs l) ∧ l.length ≤ reachBytes ∧ ∀ s ∈ l, s.size ≤ reachBytes := by
  cases h with
  | row h hl he =>
    rename_i c
    cases c <;> simp [Coll.kind] at h
    rename_i l
    refine ⟨l, rfl, hl, fun n hn => ?_⟩
    obtain ⟨i, hi, rfl⟩ := getD_mem (d := default) hn
    obtain ⟨m, h1, h2⟩ := (he i 0 .str _ hi rfl rfl).str_inv
    injection h1 with h1
    rw [h1]
    exact h2
/-- What is known of each. -/
structure XObj.Ok (x : XObj) : Prop where
  kind : (Lit.int .u8 x.kind).wf = true
  name : x.name.size ≤ reachBytes
  version : (Lit.int .u64 x.version).wf = true
  born : (Lit.int .u64 x.born).wf = true
  cls : x.cls.size ≤ reachBytes
  size : (Lit.int .i64 x.size).wf = true
  got : (Lit.int .i64 x.got).wf = true
  mode : (Lit.int .u8 x.mode).wf = true
  zone : x.zone.size ≤ reachBytes
  node : x.node.size ≤ reachBytes
  claim : x.claim.size ≤ reachBytes
  volume : x.volume.size ≤ reachBytes
  source : x.source.size ≤ reachBytes
  phase : (Lit.int .u8 x.phase).wf = true
  num : (Lit.int .u64 x.num).wf = true
  tag : (Lit.int .u64 x.tag).wf = true
theorem Fits.objs_inv {x : AV} (h : Fits (.row .objs) x) : ∃ l, x = .coll (.objs l) ∧ l.length ≤ reachBytes ∧ ∀ a ∈ l, a.Ok := by
  cases h with
  | row h hl he =>
    rename_i c
    cases c <;> simp [Coll.kind] at h
    rename_i l
    refine ⟨l, rfl, hl, fun a ha => ?_⟩
    obtain ⟨i, hi, rfl⟩ := getD_mem (d := default) ha
    exact ⟨by obtain ⟨m, h1, h2⟩ := (he i 0 (.int .u8) _ hi rfl rfl).int_inv; injection h1 with _ h1; rw [h1]; exact h2, by obtain ⟨m, h1, h2⟩ := (he i 1 .str _ hi rfl rfl).str_inv; injection h1 with h1; rw [h1]; exact h2, by obtain ⟨m, h1, h2⟩ := (he i 2 (.int .u64) _ hi rfl rfl).int_inv; injection h1 with _ h1; rw [h1]; exact h2, by obtain ⟨m, h1, h2⟩ := (he i 3 (.int .u64) _ hi rfl rfl).int_inv; injection h1 with _ h1; rw [h1]; exact h2, by obtain ⟨m, h1, h2⟩ := (he i 6 .str _ hi rfl rfl).str_inv; injection h1 with h1; rw [h1]; exact h2, by obtain ⟨m, h1, h2⟩ := (he i 7 (.int .i64) _ hi rfl rfl).int_inv; injection h1 with _ h1; rw [h1]; exact h2, by obtain ⟨m, h1, h2⟩ := (he i 8 (.int .i64) _ hi rfl rfl).int_inv; injection h1 with _ h1; rw [h1]; exact h2, by obtain ⟨m, h1, h2⟩ := (he i 9 (.int .u8) _ hi rfl rfl).int_inv; injection h1 with _ h1; rw [h1]; exact h2, by obtain ⟨m, h1, h2⟩ := (he i 12 .str _ hi rfl rfl).str_inv; injection h1 with h1; rw [h1]; exact h2, by obtain ⟨m, h1, h2⟩ := (he i 13 .str _ hi rfl rfl).str_inv; injection h1 with h1; rw [h1]; exact h2, by obtain ⟨m, h1, h2⟩ := (he i 14 .str _ hi rfl rfl).str_inv; injection h1 with h1; rw [h1]; exact h2, by obtain ⟨m, h1, h2⟩ := (he i 15 .str _ hi rfl rfl).str_inv; injection h1 with h1; rw [h1]; exact h2, by obtain ⟨m, h1, h2⟩ := (he i 16 .str _ hi rfl rfl).str_inv; injection h1 with h1; rw [h1]; exact h2, by obtain ⟨m, h1, h2⟩ := (he i 17 (.int .u8) _ hi rfl rfl).int_inv; injection h1 with _ h1; rw [h1]; exact h2, by obtain ⟨m, h1, h2⟩ := (he i 18 (.int .u64) _ hi rfl rfl).int_inv; injection h1 with _ h1; rw [h1]; exact h2, by obtain ⟨m, h1, h2⟩ := (he i 19 (.int .u64) _ hi rfl rfl).int_inv; injection h1 with _ h1; rw [h1]; exact h2⟩
/-- What is known of each. -/
structure XCall.Ok (x : XCall) : Prop where
  verb : (Lit.int .u8 x.verb).wf = true
  target : x.target.size ≤ reachBytes
  num : (Lit.int .u64 x.num).wf = true
  size : (Lit.int .i64 x.size).wf = true
  zone : x.zone.size ≤ reachBytes
  node : x.node.size ≤ reachBytes
  source : x.source.size ≤ reachBytes
theorem Fits.calls_inv {x : AV} (h : Fits (.row .calls) x) : ∃ l, x = .coll (.calls l) ∧ l.length ≤ reachBytes ∧ ∀ a ∈ l, a.Ok := by
  cases h with
  | row h hl he =>
    rename_i c
    cases c <;> simp [Coll.kind] at h
    rename_i l
    refine ⟨l, rfl, hl, fun a ha => ?_⟩
    obtain ⟨i, hi, rfl⟩ := getD_mem (d := default) ha
    exact ⟨by obtain ⟨m, h1, h2⟩ := (he i 0 (.int .u8) _ hi rfl rfl).int_inv; injection h1 with _ h1; rw [h1]; exact h2, by obtain ⟨m, h1, h2⟩ := (he i 1 .str _ hi rfl rfl).str_inv; injection h1 with h1; rw [h1]; exact h2, by obtain ⟨m, h1, h2⟩ := (he i 2 (.int .u64) _ hi rfl rfl).int_inv; injection h1 with _ h1; rw [h1]; exact h2, by obtain ⟨m, h1, h2⟩ := (he i 3 (.int .i64) _ hi rfl rfl).int_inv; injection h1 with _ h1; rw [h1]; exact h2, by obtain ⟨m, h1, h2⟩ := (he i 4 .str _ hi rfl rfl).str_inv; injection h1 with h1; rw [h1]; exact h2, by obtain ⟨m, h1, h2⟩ := (he i 5 .str _ hi rfl rfl).str_inv; injection h1 with h1; rw [h1]; exact h2, by obtain ⟨m, h1, h2⟩ := (he i 6 .str _ hi rfl rfl).str_inv; injection h1 with h1; rw [h1]; exact h2⟩
/-- What is known of each. -/
structure XAsk.Ok (x : XAsk) : Prop where
  who : x.who.size ≤ reachBytes
  now : (Lit.int .u64 x.now).wf = true
  span : (Lit.int .u64 x.span).wf = true
theorem Fits.asks_inv {x : AV} (h : Fits (.row .asks) x) : ∃ l, x = .coll (.asks l) ∧ l.length ≤ reachBytes ∧ ∀ a ∈ l, a.Ok := by
  cases h with
  | row h hl he =>
    rename_i c
    cases c <;> simp [Coll.kind] at h
    rename_i l
    refine ⟨l, rfl, hl, fun a ha => ?_⟩
    obtain ⟨i, hi, rfl⟩ := getD_mem (d := default) ha
    exact ⟨by obtain ⟨m, h1, h2⟩ := (he i 0 .str _ hi rfl rfl).str_inv; injection h1 with h1; rw [h1]; exact h2, by obtain ⟨m, h1, h2⟩ := (he i 1 (.int .u64) _ hi rfl rfl).int_inv; injection h1 with _ h1; rw [h1]; exact h2, by obtain ⟨m, h1, h2⟩ := (he i 2 (.int .u64) _ hi rfl rfl).int_inv; injection h1 with _ h1; rw [h1]; exact h2⟩
/-- What is known of each. -/
structure XLabel.Ok (x : XLabel) : Prop where
  key : x.key.size ≤ reachBytes
  value : x.value.size ≤ reachBytes
theorem Fits.labels_inv {x : AV} (h : Fits (.row .labels) x) : ∃ l, x = .coll (.labels l) ∧ l.length ≤ reachBytes ∧ ∀ a ∈ l, a.Ok := by
  cases h with
  | row h hl he =>
    rename_i c
    cases c <;> simp [Coll.kind] at h
    rename_i l
    refine ⟨l, rfl, hl, fun a ha => ?_⟩
    obtain ⟨i, hi, rfl⟩ := getD_mem (d := default) ha
    exact ⟨by obtain ⟨m, h1, h2⟩ := (he i 0 .str _ hi rfl rfl).str_inv; injection h1 with h1; rw [h1]; exact h2, by obtain ⟨m, h1, h2⟩ := (he i 1 .str _ hi rfl rfl).str_inv; injection h1 with h1; rw [h1]; exact h2⟩
/-- What is known of each. -/
structure XTerm.Ok (x : XTerm) : Prop where
  key : x.key.size ≤ reachBytes
  values : x.values.length ≤ reachBytes ∧ ∀ s ∈ x.values, s.size ≤ reachBytes
theorem Fits.terms_inv {x : AV} (h : Fits (.row .terms) x) : ∃ l, x = .coll (.terms l) ∧ l.length ≤ reachBytes ∧ ∀ a ∈ l, a.Ok := by
  cases h with
  | row h hl he =>
    rename_i c
    cases c <;> simp [Coll.kind] at h
    rename_i l
    refine ⟨l, rfl, hl, fun a ha => ?_⟩
    obtain ⟨i, hi, rfl⟩ := getD_mem (d := default) ha
    exact ⟨by obtain ⟨m, h1, h2⟩ := (he i 0 .str _ hi rfl rfl).str_inv; injection h1 with h1; rw [h1]; exact h2, by obtain ⟨m, h1, h2⟩ := (he i 1 (.row .strs) _ hi rfl rfl).strsB; injection h1 with h1; injection h1 with h1; rw [h1]; exact h2⟩
/-- What is known of each. -/
structure XZone.Ok (x : XZone) : Prop where
  name : x.name.size ≤ reachBytes
  room : (Lit.int .i64 x.room).wf = true
theorem Fits.zones_inv {x : AV} (h : Fits (.row .zones) x) : ∃ l, x = .coll (.zones l) ∧ l.length ≤ reachBytes ∧ ∀ a ∈ l, a.Ok := by
  cases h with
  | row h hl he =>
    rename_i c
    cases c <;> simp [Coll.kind] at h
    rename_i l
    refine ⟨l, rfl, hl, fun a ha => ?_⟩
    obtain ⟨i, hi, rfl⟩ := getD_mem (d := default) ha
    exact ⟨by obtain ⟨m, h1, h2⟩ := (he i 0 .str _ hi rfl rfl).str_inv; injection h1 with h1; rw [h1]; exact h2, by obtain ⟨m, h1, h2⟩ := (he i 1 (.int .i64) _ hi rfl rfl).int_inv; injection h1 with _ h1; rw [h1]; exact h2⟩
/-- What is known of each. -/
structure XVol.Ok (x : XVol) : Prop where
  name : x.name.size ≤ reachBytes
  size : (Lit.int .i64 x.size).wf = true
  zone : x.zone.size ≤ reachBytes
  tag : (Lit.int .u64 x.tag).wf = true
  nodes : x.nodes.length ≤ reachBytes ∧ ∀ s ∈ x.nodes, s.size ≤ reachBytes
theorem Fits.vols_inv {x : AV} (h : Fits (.row .vols) x) : ∃ l, x = .coll (.vols l) ∧ l.length ≤ reachBytes ∧ ∀ a ∈ l, a.Ok := by
  cases h with
  | row h hl he =>
    rename_i c
    cases c <;> simp [Coll.kind] at h
    rename_i l
    refine ⟨l, rfl, hl, fun a ha => ?_⟩
    obtain ⟨i, hi, rfl⟩ := getD_mem (d := default) ha
    exact ⟨by obtain ⟨m, h1, h2⟩ := (he i 0 .str _ hi rfl rfl).str_inv; injection h1 with h1; rw [h1]; exact h2, by obtain ⟨m, h1, h2⟩ := (he i 1 (.int .i64) _ hi rfl rfl).int_inv; injection h1 with _ h1; rw [h1]; exact h2, by obtain ⟨m, h1, h2⟩ := (he i 2 .str _ hi rfl rfl).str_inv; injection h1 with h1; rw [h1]; exact h2, by obtain ⟨m, h1, h2⟩ := (he i 3 (.int .u64) _ hi rfl rfl).int_inv; injection h1 with _ h1; rw [h1]; exact h2, by obtain ⟨m, h1, h2⟩ := (he i 4 (.row .strs) _ hi rfl rfl).strsB; injection h1 with h1; injection h1 with h1; rw [h1]; exact h2⟩
/-- What is known of each. -/
structure XSnap.Ok (x : XSnap) : Prop where
  name : x.name.size ≤ reachBytes
  size : (Lit.int .i64 x.size).wf = true
  tag : (Lit.int .u64 x.tag).wf = true
theorem Fits.snaps_inv {x : AV} (h : Fits (.row .snaps) x) : ∃ l, x = .coll (.snaps l) ∧ l.length ≤ reachBytes ∧ ∀ a ∈ l, a.Ok := by
  cases h with
  | row h hl he =>
    rename_i c
    cases c <;> simp [Coll.kind] at h
    rename_i l
    refine ⟨l, rfl, hl, fun a ha => ?_⟩
    obtain ⟨i, hi, rfl⟩ := getD_mem (d := default) ha
    exact ⟨by obtain ⟨m, h1, h2⟩ := (he i 0 .str _ hi rfl rfl).str_inv; injection h1 with h1; rw [h1]; exact h2, by obtain ⟨m, h1, h2⟩ := (he i 1 (.int .i64) _ hi rfl rfl).int_inv; injection h1 with _ h1; rw [h1]; exact h2, by obtain ⟨m, h1, h2⟩ := (he i 2 (.int .u64) _ hi rfl rfl).int_inv; injection h1 with _ h1; rw [h1]; exact h2⟩
end Go.Eng
