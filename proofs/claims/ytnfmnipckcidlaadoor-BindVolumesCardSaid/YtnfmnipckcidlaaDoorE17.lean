/- The engine, part 17: what is known of the elements of arguments. -/
import Derived.Test.YtnfmnipckcidlaaDoorE16
set_option linter.unusedVariables false
set_option linter.unusedSimpArgs false
namespace Go.Eng

theorem wf_i64 {n : Int} (h : (Lit.int .i64 n).wf = true) : -9223372036854775808 ≤ n ∧ n ≤ 9223372036854775807 := by
  simp [Lit.wf, IntKind.min, IntKind.max, IntKind.signed, IntKind.bits] at h; omega
theorem wf_i32 {n : Int} (h : (Lit.int .i32 n).wf = true) : -2147483648 ≤ n ∧ n ≤ 2147483647 := by
  simp [Lit.wf, IntKind.min, IntKind.max, IntKind.signed, IntKind.bits] at h; omega
theorem wf_u64 {n : Int} (h : (Lit.int .u64 n).wf = true) : 0 ≤ n ∧ n ≤ 18446744073709551615 := by
  simp [Lit.wf, IntKind.min, IntKind.max, IntKind.signed, IntKind.bits] at h; omega
theorem wf_u32 {n : Int} (h : (Lit.int .u32 n).wf = true) : 0 ≤ n ∧ n ≤ 4294967295 := by
  simp [Lit.wf, IntKind.min, IntKind.max, IntKind.signed, IntKind.bits] at h; omega
theorem wf_u16 {n : Int} (h : (Lit.int .u16 n).wf = true) : 0 ≤ n ∧ n ≤ 65535 := by
  simp [Lit.wf, IntKind.min, IntKind.max, IntKind.signed, IntKind.bits] at h; omega
theorem wf_u8 {n : Int} (h : (Lit.int .u8 n).wf = true) : 0 ≤ n ∧ n ≤ 255 := by
  simp [Lit.wf, IntKind.min, IntKind.max, IntKind.signed, IntKind.bits] at h; omega
theorem reach_lt : reachBytes < 9223372036854775807 := by decide
theorem getD_mem {α : Type} {l : List α} {x d : α} (h : x ∈ l) : ∃ i, i < l.length ∧ l.getD i d = x := by
  obtain ⟨i, hi, rfl⟩ := List.mem_iff_getElem.1 h
  exact ⟨i, hi, by simp [List.getD_eq_getElem?_getD, List.getElem?_eq_getElem hi]⟩
theorem Fits.row_len {k : Kind} {x : AV} (h : Fits (.row k) x) : ∃ l : List k.Ty, x = .coll ⟨k, l⟩ ∧ l.length ≤ reachBytes ∧ ∀ a ∈ l, ∀ (j : Nat) (sh : Sh) (y : AV), k.shapes[j]? = some sh → (k.enc a)[j]? = some y → Fits sh y := by
  cases h with
  | row h hl he =>
    rename_i c
    obtain ⟨k', l⟩ := c
    simp only at h
    subst h
    refine ⟨l, rfl, hl, fun a ha j sh y h1 h2 => ?_⟩
    obtain ⟨i, hi, rfl⟩ := getD_mem (d := default) ha
    exact he i j sh y hi h1 h2
theorem Fits.ints_inv {k : IntKind} {x : AV} (h : Fits (.row (.int k)) x) : ∃ l : List Int, x = .coll ⟨.int k, l⟩ ∧ l.length ≤ reachBytes ∧ ∀ n ∈ l, (Lit.int k n).wf = true := by
  obtain ⟨l, h1, h2, h3⟩ := h.row_len
  refine ⟨l, h1, h2, fun n hn => ?_⟩
  obtain ⟨m, q1, q2⟩ := (h3 n hn 0 (.int k) _ rfl rfl).int_inv
  injection q1 with _ q1
  rw [q1]; exact q2
theorem Fits.strs_inv {x : AV} (h : Fits (.row .str) x) : ∃ l : List ByteArray, x = .coll ⟨.str, l⟩ ∧ l.length ≤ reachBytes ∧ ∀ s ∈ l, s.size ≤ reachBytes := by
  obtain ⟨l, h1, h2, h3⟩ := h.row_len
  refine ⟨l, h1, h2, fun n hn => ?_⟩
  obtain ⟨m, q1, q2⟩ := (h3 n hn 0 .str _ rfl rfl).str_inv
  injection q1 with q1
  rw [q1]; exact q2
theorem Fits.bools_inv {x : AV} (h : Fits (.row .bool) x) : ∃ l : List Bool, x = .coll ⟨.bool, l⟩ ∧ l.length ≤ reachBytes := by
  obtain ⟨l, h1, h2, h3⟩ := h.row_len
  exact ⟨l, h1, h2⟩
/-- What is known of each. -/
structure XObj.Ok (x : XObj) : Prop where
  kind : (Lit.int .u8 x.kind).wf = true
  name : x.name.size ≤ reachBytes
  version : (Lit.int .u64 x.version).wf = true
  born : (Lit.int .u64 x.born).wf = true
  cls : x.cls.size ≤ reachBytes
  size : (Lit.int .i64 x.size).wf = true
  got : (Lit.int .i64 x.got).wf = true
  mode : (Lit.int .u8 x.mode).wf = true
  zone : x.zone.size ≤ reachBytes
  node : x.node.size ≤ reachBytes
  claim : x.claim.size ≤ reachBytes
  volume : x.volume.size ≤ reachBytes
  source : x.source.size ≤ reachBytes
  phase : (Lit.int .u8 x.phase).wf = true
  num : (Lit.int .u64 x.num).wf = true
  tag : (Lit.int .u64 x.tag).wf = true
theorem XObj.ok_of {a : XObj} (g : ∀ (j : Nat) (sh : Sh) (y : AV), (Kind.shapes .obj)[j]? = some sh → (Kind.enc .obj a)[j]? = some y → Fits sh y) : a.Ok :=
  ⟨by obtain ⟨m, q1, q2⟩ := (g 0 (.int .u8) _ rfl rfl).int_inv; injection q1 with _ q1; rw [q1]; exact q2,
   by obtain ⟨m, q1, q2⟩ := (g 1 .str _ rfl rfl).str_inv; injection q1 with q1; rw [q1]; exact q2,
   by obtain ⟨m, q1, q2⟩ := (g 2 (.int .u64) _ rfl rfl).int_inv; injection q1 with _ q1; rw [q1]; exact q2,
   by obtain ⟨m, q1, q2⟩ := (g 3 (.int .u64) _ rfl rfl).int_inv; injection q1 with _ q1; rw [q1]; exact q2,
   by obtain ⟨m, q1, q2⟩ := (g 6 .str _ rfl rfl).str_inv; injection q1 with q1; rw [q1]; exact q2,
   by obtain ⟨m, q1, q2⟩ := (g 7 (.int .i64) _ rfl rfl).int_inv; injection q1 with _ q1; rw [q1]; exact q2,
   by obtain ⟨m, q1, q2⟩ := (g 8 (.int .i64) _ rfl rfl).int_inv; injection q1 with _ q1; rw [q1]; exact q2,
   by obtain ⟨m, q1, q2⟩ := (g 9 (.int .u8) _ rfl rfl).int_inv; injection q1 with _ q1; rw [q1]; exact q2,
   by obtain ⟨m, q1, q2⟩ := (g 12 .str _ rfl rfl).str_inv; injection q1 with q1; rw [q1]; exact q2,
   by obtain ⟨m, q1, q2⟩ := (g 13 .str _ rfl rfl).str_inv; injection q1 with q1; rw [q1]; exact q2,
   by obtain ⟨m, q1, q2⟩ := (g 14 .str _ rfl rfl).str_inv; injection q1 with q1; rw [q1]; exact q2,
   by obtain ⟨m, q1, q2⟩ := (g 15 .str _ rfl rfl).str_inv; injection q1 with q1; rw [q1]; exact q2,
   by obtain ⟨m, q1, q2⟩ := (g 16 .str _ rfl rfl).str_inv; injection q1 with q1; rw [q1]; exact q2,
   by obtain ⟨m, q1, q2⟩ := (g 17 (.int .u8) _ rfl rfl).int_inv; injection q1 with _ q1; rw [q1]; exact q2,
   by obtain ⟨m, q1, q2⟩ := (g 18 (.int .u64) _ rfl rfl).int_inv; injection q1 with _ q1; rw [q1]; exact q2,
   by obtain ⟨m, q1, q2⟩ := (g 19 (.int .u64) _ rfl rfl).int_inv; injection q1 with _ q1; rw [q1]; exact q2⟩
theorem Fits.objs_inv {x : AV} (h : Fits (.row .obj) x) : ∃ l : List XObj, x = .coll ⟨.obj, l⟩ ∧ l.length ≤ reachBytes ∧ ∀ a ∈ l, a.Ok := by
  obtain ⟨l, h1, h2, h3⟩ := h.row_len
  exact ⟨l, h1, h2, fun a ha => XObj.ok_of (h3 a ha)⟩
/-- What is known of each. -/
structure XCall.Ok (x : XCall) : Prop where
  verb : (Lit.int .u8 x.verb).wf = true
  target : x.target.size ≤ reachBytes
  num : (Lit.int .u64 x.num).wf = true
  size : (Lit.int .i64 x.size).wf = true
  zone : x.zone.size ≤ reachBytes
  node : x.node.size ≤ reachBytes
  source : x.source.size ≤ reachBytes
theorem XCall.ok_of {a : XCall} (g : ∀ (j : Nat) (sh : Sh) (y : AV), (Kind.shapes .call)[j]? = some sh → (Kind.enc .call a)[j]? = some y → Fits sh y) : a.Ok :=
  ⟨by obtain ⟨m, q1, q2⟩ := (g 0 (.int .u8) _ rfl rfl).int_inv; injection q1 with _ q1; rw [q1]; exact q2,
   by obtain ⟨m, q1, q2⟩ := (g 1 .str _ rfl rfl).str_inv; injection q1 with q1; rw [q1]; exact q2,
   by obtain ⟨m, q1, q2⟩ := (g 2 (.int .u64) _ rfl rfl).int_inv; injection q1 with _ q1; rw [q1]; exact q2,
   by obtain ⟨m, q1, q2⟩ := (g 3 (.int .i64) _ rfl rfl).int_inv; injection q1 with _ q1; rw [q1]; exact q2,
   by obtain ⟨m, q1, q2⟩ := (g 4 .str _ rfl rfl).str_inv; injection q1 with q1; rw [q1]; exact q2,
   by obtain ⟨m, q1, q2⟩ := (g 5 .str _ rfl rfl).str_inv; injection q1 with q1; rw [q1]; exact q2,
   by obtain ⟨m, q1, q2⟩ := (g 6 .str _ rfl rfl).str_inv; injection q1 with q1; rw [q1]; exact q2⟩
theorem Fits.calls_inv {x : AV} (h : Fits (.row .call) x) : ∃ l : List XCall, x = .coll ⟨.call, l⟩ ∧ l.length ≤ reachBytes ∧ ∀ a ∈ l, a.Ok := by
  obtain ⟨l, h1, h2, h3⟩ := h.row_len
  exact ⟨l, h1, h2, fun a ha => XCall.ok_of (h3 a ha)⟩
/-- What is known of each. -/
structure XAsk.Ok (x : XAsk) : Prop where
  who : x.who.size ≤ reachBytes
  now : (Lit.int .u64 x.now).wf = true
  span : (Lit.int .u64 x.span).wf = true
theorem XAsk.ok_of {a : XAsk} (g : ∀ (j : Nat) (sh : Sh) (y : AV), (Kind.shapes .ask)[j]? = some sh → (Kind.enc .ask a)[j]? = some y → Fits sh y) : a.Ok :=
  ⟨by obtain ⟨m, q1, q2⟩ := (g 0 .str _ rfl rfl).str_inv; injection q1 with q1; rw [q1]; exact q2,
   by obtain ⟨m, q1, q2⟩ := (g 1 (.int .u64) _ rfl rfl).int_inv; injection q1 with _ q1; rw [q1]; exact q2,
   by obtain ⟨m, q1, q2⟩ := (g 2 (.int .u64) _ rfl rfl).int_inv; injection q1 with _ q1; rw [q1]; exact q2⟩
theorem Fits.asks_inv {x : AV} (h : Fits (.row .ask) x) : ∃ l : List XAsk, x = .coll ⟨.ask, l⟩ ∧ l.length ≤ reachBytes ∧ ∀ a ∈ l, a.Ok := by
  obtain ⟨l, h1, h2, h3⟩ := h.row_len
  exact ⟨l, h1, h2, fun a ha => XAsk.ok_of (h3 a ha)⟩
/-- What is known of each. -/
structure XLabel.Ok (x : XLabel) : Prop where
  key : x.key.size ≤ reachBytes
  value : x.value.size ≤ reachBytes
theorem XLabel.ok_of {a : XLabel} (g : ∀ (j : Nat) (sh : Sh) (y : AV), (Kind.shapes .label)[j]? = some sh → (Kind.enc .label a)[j]? = some y → Fits sh y) : a.Ok :=
  ⟨by obtain ⟨m, q1, q2⟩ := (g 0 .str _ rfl rfl).str_inv; injection q1 with q1; rw [q1]; exact q2,
   by obtain ⟨m, q1, q2⟩ := (g 1 .str _ rfl rfl).str_inv; injection q1 with q1; rw [q1]; exact q2⟩
theorem Fits.labels_inv {x : AV} (h : Fits (.row .label) x) : ∃ l : List XLabel, x = .coll ⟨.label, l⟩ ∧ l.length ≤ reachBytes ∧ ∀ a ∈ l, a.Ok := by
  obtain ⟨l, h1, h2, h3⟩ := h.row_len
  exact ⟨l, h1, h2, fun a ha => XLabel.ok_of (h3 a ha)⟩
/-- What is known of each. -/
structure XTerm.Ok (x : XTerm) : Prop where
  key : x.key.size ≤ reachBytes
  values : x.values.length ≤ reachBytes ∧ ∀ s ∈ x.values, s.size ≤ reachBytes
theorem XTerm.ok_of {a : XTerm} (g : ∀ (j : Nat) (sh : Sh) (y : AV), (Kind.shapes .term)[j]? = some sh → (Kind.enc .term a)[j]? = some y → Fits sh y) : a.Ok :=
  ⟨by obtain ⟨m, q1, q2⟩ := (g 0 .str _ rfl rfl).str_inv; injection q1 with q1; rw [q1]; exact q2,
   by obtain ⟨m, q1, q2, q3⟩ := (g 1 (.row .str) _ rfl rfl).strs_inv; injection q1 with q1; injection q1 with _ q1; rw [q1]; exact ⟨q2, q3⟩⟩
theorem Fits.terms_inv {x : AV} (h : Fits (.row .term) x) : ∃ l : List XTerm, x = .coll ⟨.term, l⟩ ∧ l.length ≤ reachBytes ∧ ∀ a ∈ l, a.Ok := by
  obtain ⟨l, h1, h2, h3⟩ := h.row_len
  exact ⟨l, h1, h2, fun a ha => XTerm.ok_of (h3 a ha)⟩
/-- What is known of each. -/
structure XZone.Ok (x : XZone) : Prop where
  name : x.name.size ≤ reachBytes
  room : (Lit.int .i64 x.room).wf = true
theorem XZone.ok_of {a : XZone} (g : ∀ (j : Nat) (sh : Sh) (y : AV), (Kind.shapes .zone)[j]? = some sh → (Kind.enc .zone a)[j]? = some y → Fits sh y) : a.Ok :=
  ⟨by obtain ⟨m, q1, q2⟩ := (g 0 .str _ rfl rfl).str_inv; injection q1 with q1; rw [q1]; exact q2,
   by obtain ⟨m, q1, q2⟩ := (g 1 (.int .i64) _ rfl rfl).int_inv; injection q1 with _ q1; rw [q1]; exact q2⟩
theorem Fits.zones_inv {x : AV} (h : Fits (.row .zone) x) : ∃ l : List XZone, x = .coll ⟨.zone, l⟩ ∧ l.length ≤ reachBytes ∧ ∀ a ∈ l, a.Ok := by
  obtain ⟨l, h1, h2, h3⟩ := h.row_len
  exact ⟨l, h1, h2, fun a ha => XZone.ok_of (h3 a ha)⟩
/-- What is known of each. -/
structure XVol.Ok (x : XVol) : Prop where
  name : x.name.size ≤ reachBytes
  size : (Lit.int .i64 x.size).wf = true
  zone : x.zone.size ≤ reachBytes
  tag : (Lit.int .u64 x.tag).wf = true
  nodes : x.nodes.length ≤ reachBytes ∧ ∀ s ∈ x.nodes, s.size ≤ reachBytes
theorem XVol.ok_of {a : XVol} (g : ∀ (j : Nat) (sh : Sh) (y : AV), (Kind.shapes .vol)[j]? = some sh → (Kind.enc .vol a)[j]? = some y → Fits sh y) : a.Ok :=
  ⟨by obtain ⟨m, q1, q2⟩ := (g 0 .str _ rfl rfl).str_inv; injection q1 with q1; rw [q1]; exact q2,
   by obtain ⟨m, q1, q2⟩ := (g 1 (.int .i64) _ rfl rfl).int_inv; injection q1 with _ q1; rw [q1]; exact q2,
   by obtain ⟨m, q1, q2⟩ := (g 2 .str _ rfl rfl).str_inv; injection q1 with q1; rw [q1]; exact q2,
   by obtain ⟨m, q1, q2⟩ := (g 3 (.int .u64) _ rfl rfl).int_inv; injection q1 with _ q1; rw [q1]; exact q2,
   by obtain ⟨m, q1, q2, q3⟩ := (g 4 (.row .str) _ rfl rfl).strs_inv; injection q1 with q1; injection q1 with _ q1; rw [q1]; exact ⟨q2, q3⟩⟩
theorem Fits.vols_inv {x : AV} (h : Fits (.row .vol) x) : ∃ l : List XVol, x = .coll ⟨.vol, l⟩ ∧ l.length ≤ reachBytes ∧ ∀ a ∈ l, a.Ok := by
  obtain ⟨l, h1, h2, h3⟩ := h.row_len
  exact ⟨l, h1, h2, fun a ha => XVol.ok_of (h3 a ha)⟩
/-- What is known of each. -/
structure XSnap.Ok (x : XSnap) : Prop where
  name : x.name.size ≤ reachBytes
  size : (Lit.int .i64 x.size).wf = true
  tag : (Lit.int .u64 x.tag).wf = true
theorem XSnap.ok_of {a : XSnap} (g : ∀ (j : Nat) (sh : Sh) (y : AV), (Kind.shapes .snap)[j]? = some sh → (Kind.enc .snap a)[j]? = some y → Fits sh y) : a.Ok :=
  ⟨by obtain ⟨m, q1, q2⟩ := (g 0 .str _ rfl rfl).str_inv; injection q1 with q1; rw [q1]; exact q2,
   by obtain ⟨m, q1, q2⟩ := (g 1 (.int .i64) _ rfl rfl).int_inv; injection q1 with _ q1; rw [q1]; exact q2,
   by obtain ⟨m, q1, q2⟩ := (g 2 (.int .u64) _ rfl rfl).int_inv; injection q1 with _ q1; rw [q1]; exact q2⟩
theorem Fits.snaps_inv {x : AV} (h : Fits (.row .snap) x) : ∃ l : List XSnap, x = .coll ⟨.snap, l⟩ ∧ l.length ≤ reachBytes ∧ ∀ a ∈ l, a.Ok := by
  obtain ⟨l, h1, h2, h3⟩ := h.row_len
  exact ⟨l, h1, h2, fun a ha => XSnap.ok_of (h3 a ha)⟩
/-- What is known of each. -/
structure XSn.Ok (x : XSn) : Prop where
  size : (Lit.int .i64 x.size).wf = true
  tag : (Lit.int .u64 x.tag).wf = true
theorem XSn.ok_of {a : XSn} (g : ∀ (j : Nat) (sh : Sh) (y : AV), (Kind.shapes .sn)[j]? = some sh → (Kind.enc .sn a)[j]? = some y → Fits sh y) : a.Ok :=
  ⟨by obtain ⟨m, q1, q2⟩ := (g 0 (.int .i64) _ rfl rfl).int_inv; injection q1 with _ q1; rw [q1]; exact q2,
   by obtain ⟨m, q1, q2⟩ := (g 1 (.int .u64) _ rfl rfl).int_inv; injection q1 with _ q1; rw [q1]; exact q2⟩
theorem Fits.sns_inv {x : AV} (h : Fits (.row .sn) x) : ∃ l : List XSn, x = .coll ⟨.sn, l⟩ ∧ l.length ≤ reachBytes ∧ ∀ a ∈ l, a.Ok := by
  obtain ⟨l, h1, h2, h3⟩ := h.row_len
  exact ⟨l, h1, h2, fun a ha => XSn.ok_of (h3 a ha)⟩
/-- What is known of each. -/
structure XKey.Ok (x : XKey) : Prop where
  kind : (Lit.int .u8 x.kind).wf = true
  name : x.name.size ≤ reachBytes
theorem XKey.ok_of {a : XKey} (g : ∀ (j : Nat) (sh : Sh) (y : AV), (Kind.shapes .key)[j]? = some sh → (Kind.enc .key a)[j]? = some y → Fits sh y) : a.Ok :=
  ⟨by obtain ⟨m, q1, q2⟩ := (g 0 (.int .u8) _ rfl rfl).int_inv; injection q1 with _ q1; rw [q1]; exact q2,
   by obtain ⟨m, q1, q2⟩ := (g 1 .str _ rfl rfl).str_inv; injection q1 with q1; rw [q1]; exact q2⟩
theorem Fits.keys_inv {x : AV} (h : Fits (.row .key) x) : ∃ l : List XKey, x = .coll ⟨.key, l⟩ ∧ l.length ≤ reachBytes ∧ ∀ a ∈ l, a.Ok := by
  obtain ⟨l, h1, h2, h3⟩ := h.row_len
  exact ⟨l, h1, h2, fun a ha => XKey.ok_of (h3 a ha)⟩
/-- What is known of each. -/
structure XDeed.Ok (x : XDeed) : Prop where
  c_verb : (Lit.int .u8 x.c.verb).wf = true
  c_target : x.c.target.size ≤ reachBytes
  c_num : (Lit.int .u64 x.c.num).wf = true
  c_size : (Lit.int .i64 x.c.size).wf = true
  c_zone : x.c.zone.size ≤ reachBytes
  c_node : x.c.node.size ≤ reachBytes
  c_source : x.c.source.size ≤ reachBytes
  tag : (Lit.int .u64 x.tag).wf = true
theorem XDeed.ok_of {a : XDeed} (g : ∀ (j : Nat) (sh : Sh) (y : AV), (Kind.shapes .deed)[j]? = some sh → (Kind.enc .deed a)[j]? = some y → Fits sh y) : a.Ok :=
  ⟨by obtain ⟨m, q1, q2⟩ := (g 0 (.int .u8) _ rfl rfl).int_inv; injection q1 with _ q1; rw [q1]; exact q2,
   by obtain ⟨m, q1, q2⟩ := (g 1 .str _ rfl rfl).str_inv; injection q1 with q1; rw [q1]; exact q2,
   by obtain ⟨m, q1, q2⟩ := (g 2 (.int .u64) _ rfl rfl).int_inv; injection q1 with _ q1; rw [q1]; exact q2,
   by obtain ⟨m, q1, q2⟩ := (g 3 (.int .i64) _ rfl rfl).int_inv; injection q1 with _ q1; rw [q1]; exact q2,
   by obtain ⟨m, q1, q2⟩ := (g 4 .str _ rfl rfl).str_inv; injection q1 with q1; rw [q1]; exact q2,
   by obtain ⟨m, q1, q2⟩ := (g 5 .str _ rfl rfl).str_inv; injection q1 with q1; rw [q1]; exact q2,
   by obtain ⟨m, q1, q2⟩ := (g 6 .str _ rfl rfl).str_inv; injection q1 with q1; rw [q1]; exact q2,
   by obtain ⟨m, q1, q2⟩ := (g 7 (.int .u64) _ rfl rfl).int_inv; injection q1 with _ q1; rw [q1]; exact q2⟩
theorem Fits.deeds_inv {x : AV} (h : Fits (.row .deed) x) : ∃ l : List XDeed, x = .coll ⟨.deed, l⟩ ∧ l.length ≤ reachBytes ∧ ∀ a ∈ l, a.Ok := by
  obtain ⟨l, h1, h2, h3⟩ := h.row_len
  exact ⟨l, h1, h2, fun a ha => XDeed.ok_of (h3 a ha)⟩
/-- What is known of each. -/
structure XDeed2.Ok (x : XDeed2) : Prop where
  c_verb : (Lit.int .u8 x.c.verb).wf = true
  c_target : x.c.target.size ≤ reachBytes
  c_num : (Lit.int .u64 x.c.num).wf = true
  c_size : (Lit.int .i64 x.c.size).wf = true
  c_zone : x.c.zone.size ≤ reachBytes
  c_node : x.c.node.size ≤ reachBytes
  c_source : x.c.source.size ≤ reachBytes
  o : (Lit.int .u8 x.o).wf = true
  tag : (Lit.int .u64 x.tag).wf = true
  i : (Lit.int .i64 x.i).wf = true
theorem XDeed2.ok_of {a : XDeed2} (g : ∀ (j : Nat) (sh : Sh) (y : AV), (Kind.shapes .deed2)[j]? = some sh → (Kind.enc .deed2 a)[j]? = some y → Fits sh y) : a.Ok :=
  ⟨by obtain ⟨m, q1, q2⟩ := (g 0 (.int .u8) _ rfl rfl).int_inv; injection q1 with _ q1; rw [q1]; exact q2,
   by obtain ⟨m, q1, q2⟩ := (g 1 .str _ rfl rfl).str_inv; injection q1 with q1; rw [q1]; exact q2,
   by obtain ⟨m, q1, q2⟩ := (g 2 (.int .u64) _ rfl rfl).int_inv; injection q1 with _ q1; rw [q1]; exact q2,
   by obtain ⟨m, q1, q2⟩ := (g 3 (.int .i64) _ rfl rfl).int_inv; injection q1 with _ q1; rw [q1]; exact q2,
   by obtain ⟨m, q1, q2⟩ := (g 4 .str _ rfl rfl).str_inv; injection q1 with q1; rw [q1]; exact q2,
   by obtain ⟨m, q1, q2⟩ := (g 5 .str _ rfl rfl).str_inv; injection q1 with q1; rw [q1]; exact q2,
   by obtain ⟨m, q1, q2⟩ := (g 6 .str _ rfl rfl).str_inv; injection q1 with q1; rw [q1]; exact q2,
   by obtain ⟨m, q1, q2⟩ := (g 7 (.int .u8) _ rfl rfl).int_inv; injection q1 with _ q1; rw [q1]; exact q2,
   by obtain ⟨m, q1, q2⟩ := (g 8 (.int .u64) _ rfl rfl).int_inv; injection q1 with _ q1; rw [q1]; exact q2,
   by obtain ⟨m, q1, q2⟩ := (g 10 (.int .i64) _ rfl rfl).int_inv; injection q1 with _ q1; rw [q1]; exact q2⟩
theorem Fits.deed2s_inv {x : AV} (h : Fits (.row .deed2) x) : ∃ l : List XDeed2, x = .coll ⟨.deed2, l⟩ ∧ l.length ≤ reachBytes ∧ ∀ a ∈ l, a.Ok := by
  obtain ⟨l, h1, h2, h3⟩ := h.row_len
  exact ⟨l, h1, h2, fun a ha => XDeed2.ok_of (h3 a ha)⟩
/-- What is known of each. -/
structure XEvent.Ok (x : XEvent) : Prop where
  version : (Lit.int .u64 x.version).wf = true
  obj_kind : (Lit.int .u8 x.obj.kind).wf = true
  obj_name : x.obj.name.size ≤ reachBytes
  obj_version : (Lit.int .u64 x.obj.version).wf = true
  obj_born : (Lit.int .u64 x.obj.born).wf = true
  obj_cls : x.obj.cls.size ≤ reachBytes
  obj_size : (Lit.int .i64 x.obj.size).wf = true
  obj_got : (Lit.int .i64 x.obj.got).wf = true
  obj_mode : (Lit.int .u8 x.obj.mode).wf = true
  obj_zone : x.obj.zone.size ≤ reachBytes
  obj_node : x.obj.node.size ≤ reachBytes
  obj_claim : x.obj.claim.size ≤ reachBytes
  obj_volume : x.obj.volume.size ≤ reachBytes
  obj_source : x.obj.source.size ≤ reachBytes
  obj_phase : (Lit.int .u8 x.obj.phase).wf = true
  obj_num : (Lit.int .u64 x.obj.num).wf = true
  obj_tag : (Lit.int .u64 x.obj.tag).wf = true
theorem XEvent.ok_of {a : XEvent} (g : ∀ (j : Nat) (sh : Sh) (y : AV), (Kind.shapes .event)[j]? = some sh → (Kind.enc .event a)[j]? = some y → Fits sh y) : a.Ok :=
  ⟨by obtain ⟨m, q1, q2⟩ := (g 0 (.int .u64) _ rfl rfl).int_inv; injection q1 with _ q1; rw [q1]; exact q2,
   by obtain ⟨m, q1, q2⟩ := (g 2 (.int .u8) _ rfl rfl).int_inv; injection q1 with _ q1; rw [q1]; exact q2,
   by obtain ⟨m, q1, q2⟩ := (g 3 .str _ rfl rfl).str_inv; injection q1 with q1; rw [q1]; exact q2,
   by obtain ⟨m, q1, q2⟩ := (g 4 (.int .u64) _ rfl rfl).int_inv; injection q1 with _ q1; rw [q1]; exact q2,
   by obtain ⟨m, q1, q2⟩ := (g 5 (.int .u64) _ rfl rfl).int_inv; injection q1 with _ q1; rw [q1]; exact q2,
   by obtain ⟨m, q1, q2⟩ := (g 8 .str _ rfl rfl).str_inv; injection q1 with q1; rw [q1]; exact q2,
   by obtain ⟨m, q1, q2⟩ := (g 9 (.int .i64) _ rfl rfl).int_inv; injection q1 with _ q1; rw [q1]; exact q2,
   by obtain ⟨m, q1, q2⟩ := (g 10 (.int .i64) _ rfl rfl).int_inv; injection q1 with _ q1; rw [q1]; exact q2,
   by obtain ⟨m, q1, q2⟩ := (g 11 (.int .u8) _ rfl rfl).int_inv; injection q1 with _ q1; rw [q1]; exact q2,
   by obtain ⟨m, q1, q2⟩ := (g 14 .str _ rfl rfl).str_inv; injection q1 with q1; rw [q1]; exact q2,
   by obtain ⟨m, q1, q2⟩ := (g 15 .str _ rfl rfl).str_inv; injection q1 with q1; rw [q1]; exact q2,
   by obtain ⟨m, q1, q2⟩ := (g 16 .str _ rfl rfl).str_inv; injection q1 with q1; rw [q1]; exact q2,
   by obtain ⟨m, q1, q2⟩ := (g 17 .str _ rfl rfl).str_inv; injection q1 with q1; rw [q1]; exact q2,
   by obtain ⟨m, q1, q2⟩ := (g 18 .str _ rfl rfl).str_inv; injection q1 with q1; rw [q1]; exact q2,
   by obtain ⟨m, q1, q2⟩ := (g 19 (.int .u8) _ rfl rfl).int_inv; injection q1 with _ q1; rw [q1]; exact q2,
   by obtain ⟨m, q1, q2⟩ := (g 20 (.int .u64) _ rfl rfl).int_inv; injection q1 with _ q1; rw [q1]; exact q2,
   by obtain ⟨m, q1, q2⟩ := (g 21 (.int .u64) _ rfl rfl).int_inv; injection q1 with _ q1; rw [q1]; exact q2⟩
theorem Fits.events_inv {x : AV} (h : Fits (.row .event) x) : ∃ l : List XEvent, x = .coll ⟨.event, l⟩ ∧ l.length ≤ reachBytes ∧ ∀ a ∈ l, a.Ok := by
  obtain ⟨l, h1, h2, h3⟩ := h.row_len
  exact ⟨l, h1, h2, fun a ha => XEvent.ok_of (h3 a ha)⟩
end Go.Eng
