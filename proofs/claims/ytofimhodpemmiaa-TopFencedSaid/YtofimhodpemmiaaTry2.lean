/- Leases: lease.Try as a fact. -/
import Derived.Test.YtofimhodpemmiaaTry
set_option maxRecDepth 100000
namespace Go.Proofs.Ytofimhodpemmiaa
open Go Go.Eng

def lease2 (a : ByteArray) (b c : Int) : AV := .agg [.str a, .int .u64 b, .int .u64 c]
/-- The results, as they are read behind the deferred function. -/
theorem res11 {B : Nat → Prop} {w0 w1 w2 : World} {M0 M1 M2 : Mem} {ρ1 ρ2 : Eng.Loc} {a1 : Act} {D : List Deferred} {a b x y : _} {c z k : Int} (T : Sim D B w0 M0 (sR a b c) a1 w1 ρ1 M1) (hk : kept 3 ρ1 ρ2) (H2 : SimH B w0 M0 (h25 x y z k) w2 ρ2 M2) :
    ∃ v, (results Try.f11 a1.tmps).run Try.prog w2 = .ok v w2 ∧ rep ρ2 M2 noG (.tup [lease2 x y z, .int .i64 k]) v := by
  have hS : Sim D B w0 M0 ⟨slots 55 [(8, .ptr 1 0), (9, .ptr 2 0)], h25 x y z k⟩ a1 w2 ρ2 M2 := by
    refine ⟨H2, ⟨T.t.len, T.t.defers, fun i => ?_⟩⟩
    have := T.t.at_ i
    have hs : ∀ i, (slots 55 [(8, AV.ptr 1 0), (9, AV.ptr 2 0)]).getD i .unk = if i = 8 then .ptr 1 0 else if i = 9 then .ptr 2 0 else .unk := by
      intro i
      by_cases hi : i < 55
      · have : ∀ j : Fin 55, (slots 55 [(8, AV.ptr 1 0), (9, AV.ptr 2 0)]).getD j.1 .unk = if j.1 = 8 then .ptr 1 0 else if j.1 = 9 then .ptr 2 0 else .unk := by
          intro j
          simp only [slots, List.getD_eq_getElem?_getD, List.getElem?_map, List.getElem?_range j.2, Option.map_some, Option.getD_some, List.lookup]
          by_cases h8 : j.1 = 8
          · rw [h8]; rfl
          · by_cases h9 : j.1 = 9
            · rw [h9]; rfl
            · rw [show (j.1 == 8) = false by simpa using h8, show (j.1 == 9) = false by simpa using h9]
              simp [h8, h9]
        exact this ⟨i, hi⟩
      · rw [List.getD_eq_getElem?_getD, List.getElem?_eq_none (by simp [slots]; omega)]
        rw [if_neg (by omega), if_neg (by omega)]
        rfl
    show repS ρ2 M2 noG ((slots 55 [(8, AV.ptr 1 0), (9, AV.ptr 2 0)]).getD i .unk) _
    have h1 : repS ρ1 M1 noG ((slots 55 [(8, AV.ptr 1 0), (9, AV.ptr 2 0)]).getD i .unk) (a1.tmps.getD i undef) := this
    rw [hs] at h1 ⊢
    split
    · rename_i e
      rw [if_pos e] at h1
      simp only [repS, rep] at h1 ⊢
      obtain ⟨r, h2, h3⟩ := h1
      exact ⟨r, hk 1 _ (by omega) h2, h3⟩
    · rename_i e
      rw [if_neg e] at h1
      split
      · rename_i e2
        rw [if_pos e2] at h1
        simp only [repS, rep] at h1 ⊢
        obtain ⟨r, h2, h3⟩ := h1
        exact ⟨r, hk 2 _ (by omega) h2, h3⟩
      · simp [repS, rep]
  exact resAV_run hS (fn := Try.f11) (x := .tup [lease2 x y z, .int .i64 k]) (by kernel_rfl)
theorem try_sound (lh : ByteArray) (lu lt : Int) (w : ByteArray) (n p : Int) (hw : w.size < 9223372036854775807) (hr : List AObj) (nid : Nat) :
    KSound Try.prog 11 [.agg [.str lh, .int .u64 lu, .int .u64 lt], .str w, .int .u64 n, .int .u64 p] hr nid
      (.tup [lease2 (tryF lh lu lt w n p).1 (tryF lh lu lt w n p).2.1 (tryF lh lu lt w n p).2.2.1, .int .i64 (tryF lh lu lt w n p).2.2.2]) [] := by
  intro B w0 M0 hh wd ρ M vs H _ _ hargs
  have hbeg := pure_begin (fn := Try.f11) H hargs (by kernel_rfl)
  have hbody : Try.f11.body = some (.seq (seq1 (bodyOf Try.f11)) (.seq (.region 1 reg11.toArray false) rest11)) := by kernel_rfl
  refine calls_of_wp_defers (fn := Try.f11) (by kernel_rfl) hbody ?_
  refine wp_seq (wp_mono (try_first lh lu lt w n p [] _ wd M _ wd _ M hbeg) ?_)
  rintro e a1 w1 ⟨s, ρ1, M1, ⟨rfl, rfl⟩, _, l1, S1⟩
  simp only [Exit.then]
  have hreg : reg11 = [reg11.headD default, reg11.tail.headD default] := by kernel_rfl
  rw [hreg]
  refine wp_seq (defer_wp (E := E2) (kok _ _ _ _) (s1 := s1 lh lu lt w n p) (d := 10) (fc := 25) (caps := [.ptr 2 0, .ptr 1 0]) S1 (by kernel_rfl) (by kernel_rfl) (by kernel_rfl) (by kernel_rfl) (by kernel_rfl) (by kernel_rfl) (by kernel_rfl) ?_)
  intro a2 w2 ρ2 M2 cvs l2 l2' hcvs S2
  simp only [Exit.then]
  refine wp_mono (try_rest lh lu lt w n p hw _ _ wd M a2 w2 ρ2 M2 S2) ?_
  rintro e a3 w3 ⟨s3, ρ3, M3, hq, k3, l3, S3⟩
  have hcvs3 : repL ρ3 M3 noG [.ptr 2 0, .ptr 1 0] cvs := by
    match cvs, hcvs with
    | [c1, c2], hcvs =>
      simp only [repL, rep, and_true] at hcvs ⊢
      obtain ⟨⟨r1, h1, h2⟩, ⟨r2, h3, h4⟩⟩ := hcvs
      exact ⟨⟨r1, k3 2 _ (by omega) h1, h2⟩, ⟨r2, k3 1 _ (by omega) h3, h4⟩⟩
    | [], hcvs => simp [repL] at hcvs
    | [_], hcvs => simp [repL] at hcvs
    | _ :: _ :: _ :: _, hcvs => simp [repL] at hcvs
  have hinv : ∀ w', (invoke (.fn (.func 25) ⟨cvs⟩) #[]).run Try.prog w' = .ok (.enter 25 ⟨cvs⟩) w' := by
    intro w'
    have h0 : (#[] ++ (⟨cvs⟩ : Array Value)) = ⟨cvs⟩ := Array.empty_append
    show (callFunc 25 (#[] ++ (⟨cvs⟩ : Array Value))).run Try.prog w' = _
    rw [h0]
    exact ent_of (P := Try.prog) (f := 25) (fn := Try.f25) (c := bodyOf Try.f25) (by kernel_rfl) (by kernel_rfl) (by kernel_rfl) ⟨cvs⟩ w'
  have hM : M.le M3 := Mem.le_trans l1 (Mem.le_trans l2' l3)
  have fin : ∀ (x : ByteArray) (y z k : Int) {w4 : World} {ρ4 : Eng.Loc} {M4 : Mem} {a b c : _}, s3 = sR a b c → tryF lh lu lt w n p = (x, y, z, k) → kept 3 ρ3 ρ4 → M3.le M4 → SimH (fun b => b < wd.heap.size) wd M (h25 x y z k) w4 ρ4 M4 →
      ∃ v, (results Try.f11 a3.tmps).run Try.prog w4 = .ok v w4 ∧ ∃ v' ρ' M', Ending.returned v = .returned v' ∧ ρ.only ρ' [] ∧ M.le M' ∧ SimH B w0 M0 (applyEff hh []) w4 ρ' M' ∧
        rep ρ' M' noG (.tup [lease2 (tryF lh lu lt w n p).1 (tryF lh lu lt w n p).2.1 (tryF lh lu lt w n p).2.2.1, .int .i64 (tryF lh lu lt w n p).2.2.2]) v' := by
    intro x y z k w4 ρ4 M4 a b c hs hF hk4 l4 H4
    subst hs
    obtain ⟨v, hrun, hrep⟩ := res11 S3 hk4 H4
    rw [hF]
    obtain ⟨ρ5, M5, j1, j2, j3, j4⟩ := pure_end H H4 (Mem.le_trans hM l4) (by kernel_rfl) hrep
    exact ⟨v, hrun, v, ρ5, M5, rfl, j1, j2, j3, j4⟩
  rcases hq with ⟨rfl, a, b, c, rfl, hF⟩ | ⟨k, rfl, hk0, rfl, hF⟩
  · show Leaves Try.prog Try.f11 a3.tmps _ a3.defers .returning w3
    rw [S3.t.defers]
    refine leaves_cons (by simp) (hinv w3) ?_
    refine (close25 (u := .returning) (rv := .nili) (k := 0) a b c (.inl ⟨rfl, rfl⟩) (by kernel_rfl) (by kernel_rfl) (by kernel_rfl) (by kernel_rfl) S3.h hcvs3).mono ?_
    rintro e u' w4 ⟨rfl, hset, s4, ρ4, M4, hs4, k4, l4, H4⟩
    show Leaves Try.prog Try.f11 a3.tmps _ [] (settle u') w4
    rw [hset]
    rcases hs4 with ⟨h, _⟩ | ⟨_, rfl⟩
    · cases h
    · exact fin a b c 0 rfl hF k4 l4 H4
  · show Leaves Try.prog Try.f11 a3.tmps _ a3.defers (.panicking (pan k)) w3
    rw [S3.t.defers]
    refine leaves_cons (by simp) (hinv w3) ?_
    refine (close25 (u := .panicking (pan k)) (rv := .iface 64 (.agg [.int .i64 k])) (k := k) ⟨#[]⟩ 0 0 (.inr ⟨_, rfl, fun ρ M => by simp only [rep]; exact ⟨_, rfl, [.int .i64 k], rfl, by simp [repL, rep]⟩⟩) (by kernel_rfl) (by kernel_rfl) (by kernel_rfl) (by kernel_rfl) S3.h hcvs3).mono ?_
    rintro e u' w4 ⟨rfl, hset, s4, ρ4, M4, hs4, k4, l4, H4⟩
    show Leaves Try.prog Try.f11 a3.tmps _ [] (settle u') w4
    rw [hset]
    rcases hs4 with ⟨_, rfl⟩ | ⟨h, _⟩
    · exact fin ⟨#[]⟩ 0 0 k rfl hF k4 l4 H4
    · rw [hk0] at h; cases h
def tryK : List AV → List AObj → Nat → Option Out
  | [.agg [.str lh, .int .u64 lu, .int .u64 lt], .str w, .int .u64 n, .int .u64 p], _, _ => some (.tup [lease2 (tryF lh lu lt w n p).1 (tryF lh lu lt w n p).2.1 (tryF lh lu lt w n p).2.2.1, .int .i64 (tryF lh lu lt w n p).2.2.2], [], [w.size < 9223372036854775807])
  | _, _, _ => none
noncomputable def try_fact : Fact Try.prog where
  f := 11
  K := tryK
  ent := ent_of (fn := Try.f11) (by kernel_rfl) rfl (by kernel_rfl)
  ok := fun args h nid x effs need hk hn => by
    unfold tryK at hk
    split at hk
    · simp only [Option.some.injEq, Prod.mk.injEq] at hk
      obtain ⟨rfl, rfl, rfl⟩ := hk
      exact try_sound _ _ _ _ _ _ (hn _ List.mem_cons_self) _ _
    · cases hk
end Go.Proofs.Ytofimhodpemmiaa
