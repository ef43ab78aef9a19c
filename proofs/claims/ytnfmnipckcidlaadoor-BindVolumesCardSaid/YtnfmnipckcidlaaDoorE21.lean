/- The engine, part 21: ranges over functions: the statement; its rounds. -/
import Derived.Test.YtnfmnipckcidlaaDoorE20
set_option linter.unusedVariables false
set_option linter.unusedSimpArgs false
namespace Go.Eng
open Go.RowKit (Below)

/-- The jump that a round leaves behind. -/
def pdOf : Exit → Option (Option Code)
  | .normal => some none
  | .ret => some (some .ret)
  | .exit i => some (some (.exit i))
  | .goto l => some (some (.goto l))
  | _ => none
def exOf : Option Code → Exit
  | none => .normal
  | some (.exit i) => .exit i
  | some (.goto l) => .goto l
  | some _ => .ret
/-- The temporaries of a round. -/
def fillT (t : List AV) (ps : Array Tmp) (args : List AV) : List AV := (ps.toList.zip args).foldl (fun t p => t.set p.1 p.2) t
theorem repL_set {ρ : Loc} {M : Mem} {G : Nat → Bool → Prop} : ∀ {xs : List AV} {vs : List Value} (i : Nat) {x : AV} {v : Value}, repL ρ M G xs vs → rep ρ M G x v → repL ρ M G (xs.set i x) (vs.set i v)
  | [], [], i, _, _, _, _ => by simp [repL]
  | y :: xs, u :: vs, 0, _, _, h, k => by simp only [repL] at h; simp only [List.set_cons_zero, repL]; exact ⟨k, h.2⟩
  | y :: xs, u :: vs, i + 1, _, _, h, k => by simp only [repL] at h; simp only [List.set_cons_succ, repL]; exact ⟨h.1, repL_set i h.2 k⟩
  | [], _ :: _, _, _, _, h, _ => by simp [repL] at h
  | _ :: _, [], _, _, _, h, _ => by simp [repL] at h
theorem repL_fill {ρ : Loc} {M : Mem} {G : Nat → Bool → Prop} : ∀ (ps : List Tmp) {args : List AV} {vs : List Value} {t : List AV} {us : List Value}, repL ρ M G args vs → repL ρ M G t us →
    repL ρ M G ((ps.zip args).foldl (fun t p => t.set p.1 p.2) t) ((ps.zip vs).foldl (fun t p => t.set p.1 p.2) us)
  | [], _, _, _, _, _, h => by simpa using h
  | p :: ps, [], [], _, _, _, h => by simpa using h
  | p :: ps, x :: xs, v :: vs, t, us, hx, h => by
    simp only [repL] at hx
    simp only [List.zip_cons_cons, List.foldl_cons]
    exact repL_fill ps hx.2 (repL_set p h hx.1)
  | _ :: _, [], _ :: _, _, _, hx, _ => by simp [repL] at hx
  | _ :: _, _ :: _, [], _, _, hx, _ => by simp [repL] at hx
theorem fill_toList : ∀ (l : List (Tmp × Value)) (us : Array Value), (l.foldl (fun tmps (x : Tmp × Value) => tmps.setIfInBounds x.1 x.2) us).toList = l.foldl (fun t p => t.set p.1 p.2) us.toList
  | [], us => rfl
  | (t, v) :: l, us => by
    simp only [List.foldl_cons]
    rw [fill_toList l]
    simp
theorem simT_of_repL {D : List Deferred} {ρ : Loc} {M : Mem} {t : List AV} {us : Array Value} {n : Nat} (h : repL ρ M noG t us.toList) (hl : ltL n t = true) : SimT D ρ M noG t { tmps := us, defers := D } := by
  refine ⟨by have := repL_length h; simpa using this, rfl, fun i => ?_⟩
  have hg := ltL_notGrd hl i
  have hr : rep ρ M noG (t.getD i .unk) (us.getD i undef) := by
    rcases Nat.lt_or_ge i t.length with hi | hi
    · obtain ⟨v, hv, hr⟩ := repL_get h i t[i] (List.getElem?_eq_getElem hi)
      rw [List.getD_eq_getElem?_getD, List.getElem?_eq_getElem hi, Array.getD_eq_getD_getElem?]
      have hv' : us[i]? = some v := by simpa using hv
      rw [hv']
      exact hr
    · rw [List.getD_eq_getElem?_getD, List.getElem?_eq_none hi]
      simp [rep]
  generalize t.getD i .unk = x at hg hr
  cases x
  case grd => exact absurd rfl (hg _ _ _)
  all_goals exact hr
theorem repL_of_simT {D : List Deferred} {ρ : Loc} {M : Mem} {t : List AV} {a : Act} (T : SimT D ρ M noG t a) {n : Nat} (hl : ltL n t = true) : repL ρ M noG t a.tmps.toList := by
  have key : ∀ (t : List AV) (us : List Value), t.length = us.length → (∀ i, i < t.length → rep ρ M noG (t.getD i .unk) (us.getD i undef)) → repL ρ M noG t us := by
    intro t
    induction t with
    | nil => intro us h _; cases us <;> simp [repL] at h ⊢
    | cons x t ih =>
      intro us h k
      cases us with
      | nil => simp at h
      | cons u us =>
        simp only [repL]
        refine ⟨by simpa using k 0 (by simp), ih us (by simpa using h) fun i hi => ?_⟩
        simpa using k (i + 1) (by simp; omega)
  refine key t a.tmps.toList (by rw [T.len]; simp) fun i _ => ?_
  have hg := ltL_notGrd hl i
  have := T.at_ i
  rw [show a.tmps.toList.getD i undef = a.tmps.getD i undef from by simp [List.getD_eq_getElem?_getD, Array.getD_eq_getD_getElem?]]
  generalize t.getD i .unk = x at hg this
  cases x
  case grd => exact absurd rfl (hg _ _ _)
  all_goals exact this
/-- What speaks of the first n objects alone stands where their places stay. -/
theorem rep_kept {ρ ρ' : Loc} {M : Mem} {n : Nat} (hk : kept n ρ ρ') {x : AV} {v : Value} (hl : x.lt n = true) (h : rep ρ M noG x v) : rep ρ' M noG x v :=
  rep_mono (ρ := ρ.ren id n) (fun i r hi => by
    simp only [Loc.ren] at hi
    split at hi
    · rename_i hn; exact hk i r hn hi
    · cases hi) (Mem.le_refl _) (fun _ _ h => h) _ _ (rep_cut x v hl h)
theorem repL_kept {ρ ρ' : Loc} {M : Mem} {n : Nat} (hk : kept n ρ ρ') : ∀ {xs : List AV} {vs : List Value}, ltL n xs = true → repL ρ M noG xs vs → repL ρ' M noG xs vs
  | [], [], _, _ => by simp [repL]
  | x :: xs, v :: vs, hl, h => by simp only [ltL, Bool.and_eq_true] at hl; simp only [repL] at h ⊢; exact ⟨rep_kept hk hl.1 h.1, repL_kept hk hl.2 h.2⟩
  | [], _ :: _, _, h => by simp [repL] at h
  | _ :: _, [], _, h => by simp [repL] at h
theorem Obj.loop_notCells {r : Loop} : ∀ vs t q, (Obj.loop r) ≠ .cells vs t q := nofun

/-- An object is lent: its block is kept as it is. -/
theorem SimH.lend {B : Nat → Prop} {w0 w : World} {M0 M : Mem} {h : List AObj} {ρ : Loc} {n l : Nat} {rec : Loop} (H : SimH B w0 M0 h w ρ M) (ho : ρ.own l = some n) (hl : w.heap[l]? = some (.loop rec)) :
    SimH (fun b => B b ∨ b = l) w M (hset h n .dead) w ⟨ρ.pl, fun b => if b = l then none else ρ.own b⟩ M where
  obj := fun id => by
    rw [hget_hset]
    by_cases e : n = id
    · rw [if_pos e]; trivial
    · rw [if_neg e]
      refine (H.obj id).keep (fun _ _ h => h) (Mem.le_refl _) fun r hr => ⟨?_, rfl, fun _ h => h⟩
      show (if r = l then none else ρ.own r) = some id
      rw [if_neg (fun e' => e (by rw [e', ho] at hr; injection hr))]; exact hr
  fresh := fun id hi => by rw [length_hset] at hi; exact H.fresh id (by omega)
  own := fun r id hr => by
    replace hr : (if r = l then none else ρ.own r) = some id := hr
    split at hr
    · cases hr
    · rename_i hne; exact ⟨fun hb => hb.elim (H.own r id hr).1 hne, (H.own r id hr).2⟩
  mem := H.mem
  old := fun _ _ _ => rfl
  below := Keeps.refl _ _
  size := fun b hb => hb.elim (H.size b) fun e => by rw [e]; exact (Array.getElem?_eq_some_iff.1 hl).1
  good := fun w' hw => H.good w' fun k hk => (hw k (.inl hk)).trans (H.below.block k hk)

/-- A round, from what its code comes to. -/
theorem round_run {P : Program} {B : Nat → Prop} {wb w : World} {Mb M : Mem} {h0 : List AObj} {ρ : Loc} (H0 : SimH B wb Mb h0 w ρ M) {site n l : Nat} {t : List AV} (h00 : hget h0 n = .loop site t none) (hl : ρ n = some (.blk l)) {k : Nat} (hnk : n < k) (htk : ltL k t = true)
    {args : List AV} {vs : List Value} (hargs : repL ρ M noG args vs) (hlen : args.length = (Globs.site site).1.size) {m : Nat} (hlt : ltL m (fillT t (Globs.site site).1 args) = true) {Q : Exit → St → Prop}
    (htr : Tr P k (Globs.site site).2.1 ⟨fillT t (Globs.site site).1 args, hset h0 n .dead⟩ (fun e s1 => e = .normal ∧ Tr P k (Globs.site site).2.2 s1 Q)) (hQ : ∀ e s, Q e s → ∃ pd, pdOf e = some pd) :
    ∃ fn tmps asg body, (Instr.yield l ⟨vs⟩).run P w = .ok (.round l fn tmps asg body) w ∧ RoundIn Fence.wide 0 P l fn tmps asg body w fun e w' =>
      ∃ ex s' ρ' M' pd, Q ex s' ∧ pdOf ex = some pd ∧ e = .returned (.bool pd.isNone) ∧ kept k ρ ρ' ∧ M.le M' ∧ SimH B wb Mb (hset s'.h n (.loop site t pd)) w' ρ' M' := by
  have hob := H0.obj n
  rw [h00] at hob
  obtain ⟨l', rec, p1, p2, p3, p4, p5, p6, p7, p8⟩ := hob
  obtain rfl : l = l' := by rw [hl] at p1; injection p1 with p1; injection p1
  rw [p4] at hlen hlt htr
  simp only [Option.isNone_none, if_true] at p5
  have hsz := repL_length hargs
  have hpl : args.length = rec.params.size := hlen
  have hy := run_yield (P := P) (args := (⟨vs⟩ : Array Value)) p3 (by simp only [List.size_toArray]; omega)
  refine ⟨_, _, _, _, hy, ?_⟩
  have hB : ¬ B l := (H0.own l n p2).1
  have hH := H0.lend p2 p3
  let Bx : Nat → Prop := fun b => B b ∨ b = l
  let ρx : Loc := ⟨ρ.pl, fun b => if b = l then none else ρ.own b⟩
  have htmps : repL ρx M noG (fillT t rec.params args) ((rec.params.zip (⟨vs⟩ : Array Value)).foldl (fun tmps (x : Tmp × Value) => tmps.setIfInBounds x.1 x.2) rec.tmps).toList := by
    rw [← Array.foldl_toList, fill_toList, Array.toList_zip]
    have h3 := repL_fill rec.params.toList hargs p7
    exact repL_mono (ρ := ρ) (ρ' := ρx) (fun _ _ h => h) (Mem.le_refl _) (fun _ _ h => h) _ _ h3
  have hs0 : Sim [] Bx w M ⟨fillT t rec.params args, hset h0 n .dead⟩ { tmps := (rec.params.zip (⟨vs⟩ : Array Value)).foldl (fun tmps (x : Tmp × Value) => tmps.setIfInBounds x.1 x.2) rec.tmps, defers := [] } w ρx M := ⟨hH, simT_of_repL htmps hlt⟩
  have hro : RoOk (some l) Bx w := fun l' e => by injection e with e; subst e; exact ⟨.inr rfl, rec, p3⟩
  refine roundIn_of_wpIn (F := Fence.wide) trivial (wpIn_mono (htr (some l) [] Bx w M _ w ρx M hro hs0) ?_)
  rintro e a1 w1 ⟨s1, ρ1, M1, D1, B1, w01, M01, hc1, ⟨rfl, hbody⟩, k1, l1, H1⟩
  have hB1 : B1 l := hc1.sub l (.inr rfl)
  have hw1 : ∀ b, Bx b → w1.heap[b]? = w.heap[b]? := fun b hb => (H1.h.below.block b (hc1.sub b hb)).trans (hc1.keeps.block b hb)
  have hl1 : w1.heap[l]? = some (.loop rec) := (hw1 l (.inr rfl)).trans p3
  obtain ⟨w2, hw2⟩ : ∃ w2, w2 = w1.putObj l (.loop { rec with state := .busy }) := ⟨_, rfl⟩
  refine ⟨w2, by rw [hw2]; exact run_beginRound hl1 p5, ?_⟩
  have hl2 : w2.heap[l]? = some (.loop { rec with state := .busy }) := by rw [hw2]; exact World.putObj_heap_same (Array.getElem?_eq_some_iff.1 hl1).1
  have ho2 : ∀ b, b ≠ l → w2.heap[b]? = w1.heap[b]? := fun b hb => by rw [hw2]; exact World.putObj_heap_other hb
  have hz2 : w2.heap.size = w1.heap.size := by rw [hw2]; simp
  have H2 : SimH B1 w2 M1 s1.h w2 ρ1 M1 := by
    refine ⟨fun id => (H1.h.obj id).keep (Loc.le_refl _) (Mem.le_refl _) fun r hr => ⟨hr, ho2 r fun e => (H1.h.own r id hr).1 (by rw [e]; exact hB1), fun _ h => h⟩, H1.h.fresh, fun r id hr => ⟨(H1.h.own r id hr).1, by rw [hz2]; exact (H1.h.own r id hr).2⟩,
      fun b o v hv => ?_, fun _ _ _ => rfl, Keeps.refl _ _, fun b hb => by rw [hz2]; exact H1.h.size b hb, fun w' hw => ?_⟩
    · have h1 := H1.h.mem b o v hv
      by_cases e : b = l
      · subst e; rw [cell_none _ hl1 (by nofun)] at h1; cases h1
      · rw [← h1]; unfold World.cell?; rw [ho2 b e]
    · refine H0.good w' fun k hk => ?_
      have hne : k ≠ l := fun e => hB (by rw [← e]; exact hk)
      rw [hw k (hc1.sub k (.inl hk)), ho2 k hne, hw1 k (.inl hk)]
      exact H0.below.block k hk
  have S2 : Sim D1 B1 w2 M1 s1 a1 w2 ρ1 M1 := ⟨H2, H1.t⟩
  have hro2 : RoOk (some l) B1 w2 := fun l' e => by injection e with e; subst e; exact ⟨hB1, _, hl2⟩
  refine wpIn_mono (hbody (some l) D1 B1 w2 M1 a1 w2 ρ1 M1 hro2 S2) ?_
  rintro e a3 w3 ⟨s', ρ', M', D2, B2, w02, M02, hc2, hq, k2, l2, H3⟩
  obtain ⟨pd, hpd⟩ := hQ e s' hq
  have hB2 : B2 l := hc2.sub l hB1
  have hl3 : w3.heap[l]? = some (.loop { rec with state := .busy }) := ((H3.h.below.block l hB2).trans (hc2.keeps.block l hB1)).trans hl2
  have hkk : kept k ρ ρ' := fun i r hi hr => k2 i r hi (k1 i r hi hr)
  have hMM : M.le M' := Mem.le_trans l1 l2
  have fin : ∀ jump : Option Code, pdOf e = some jump → ∃ v w', (Instr.endRound l jump).run P w3 = .ok v w' ∧ (∃ ex s'' ρ'' M'' pd, Q ex s'' ∧ pdOf ex = some pd ∧ Ending.returned v = .returned (.bool pd.isNone) ∧ kept k ρ ρ'' ∧ M.le M'' ∧ SimH B wb Mb (hset s''.h n (.loop site t pd)) w' ρ'' M'') := by
    intro jump hj
    obtain ⟨w4, hw4⟩ : ∃ w4, w4 = w3.putObj l (.loop { rec with state := if jump.isNone then .ready else .done, pending := jump }) := ⟨_, rfl⟩
    have hl4 : w4.heap[l]? = some (.loop { rec with state := if jump.isNone then .ready else .done, pending := jump }) := by rw [hw4]; exact World.putObj_heap_same (Array.getElem?_eq_some_iff.1 hl3).1
    have ho4 : ∀ b, b ≠ l → w4.heap[b]? = w3.heap[b]? := fun b hb => by rw [hw4]; exact World.putObj_heap_other hb
    have hz4 : w4.heap.size = w3.heap.size := by rw [hw4]; simp
    refine ⟨_, w4, by rw [hw4]; exact run_endRound (r := { rec with state := .busy }) jump hl3, e, s', ⟨ρ'.pl, fun b => if b = l then some n else ρ'.own b⟩, M', jump, hq, hj, rfl, hkk, hMM, ?_⟩
    have hnl : ∀ r id, ρ'.own r = some id → r ≠ l := fun r id hr e => (H3.h.own r id hr).1 (by rw [e]; exact hB2)
    refine ⟨fun id => ?_, fun id hi => ?_, fun r id hr => ?_, fun b o v hv => ?_, fun b o hb => ?_, ?_, fun b hb => ?_, H0.good⟩
    · rw [hget_hset]
      by_cases e' : n = id
      · rw [if_pos e']
        subst e'
        refine ⟨l, _, hkk n _ hnk hl, if_pos rfl, hl4, p4, rfl, rfl, ?_, fun off => ?_⟩
        · exact repL_mono (ρ := ρ') (ρ' := ⟨ρ'.pl, fun b => if b = l then some n else ρ'.own b⟩) (fun _ _ h => h) hMM (fun _ _ h => h) _ _ (repL_kept hkk htk p7)
        · cases hm : M' l off with
          | none => rfl
          | some v =>
            have := H3.h.mem l off v hm
            rw [cell_none _ hl3 (by nofun)] at this
            cases this
      · rw [if_neg e']
        refine (H3.h.obj id).keep (fun _ _ h => h) (Mem.le_refl _) fun r hr => ⟨?_, ho4 r (hnl r id hr), fun _ h => h⟩
        show (if r = l then some n else ρ'.own r) = some id
        rw [if_neg (hnl r id hr)]; exact hr
    · rw [length_hset] at hi
      exact H3.h.fresh id (by omega)
    · replace hr : (if r = l then some n else ρ'.own r) = some id := hr
      split at hr
      · rename_i e'; subst e'; exact ⟨hB, by rw [hz4]; exact (Array.getElem?_eq_some_iff.1 hl3).1⟩
      · exact ⟨fun hb => (H3.h.own r id hr).1 (hc2.sub r (hc1.sub r (.inl hb))), by rw [hz4]; exact (H3.h.own r id hr).2⟩
    · have h1 := H3.h.mem b o v hv
      by_cases e' : b = l
      · subst e'; rw [cell_none _ hl3 (by nofun)] at h1; cases h1
      · rw [← h1]; unfold World.cell?; rw [ho4 b e']
    · have q1 := H3.h.old b o (hc2.sub b (hc1.sub b (.inl hb)))
      have q2 := hc2.mem b o (hc1.sub b (.inl hb))
      have q3 := H1.h.old b o (hc1.sub b (.inl hb))
      have q4 := hc1.mem b o (.inl hb)
      rw [q1, q2, q3, q4]
      exact H0.old b o hb
    · have c1 : Keeps B w w1 := (hc1.keeps.mono fun k hk => .inl hk).trans (H1.h.below.mono fun k hk => hc1.sub k (.inl hk))
      have c2 : Keeps B w1 w2 := by rw [hw2]; exact ⟨rfl, rfl, rfl, by simp, fun k hk => World.putObj_heap_other fun e => hB (by rw [← e]; exact hk)⟩
      have c3 : Keeps B w2 w3 := (hc2.keeps.mono fun k hk => hc1.sub k (.inl hk)).trans (H3.h.below.mono fun k hk => hc2.sub k (hc1.sub k (.inl hk)))
      have c4 : Keeps B w3 w4 := by rw [hw4]; exact ⟨rfl, rfl, rfl, by simp, fun k hk => World.putObj_heap_other fun e => hB (by rw [← e]; exact hk)⟩
      exact (((H0.below.trans c1).trans c2).trans c3).trans c4
    · rw [hz4]; exact H3.h.size b (hc2.sub b (hc1.sub b (.inl hb)))
  cases e with
  | normal => exact fin none rfl
  | ret => exact fin (some .ret) rfl
  | exit id => exact fin (some (.exit id)) rfl
  | goto l' => exact fin (some (.goto l')) rfl
  | panic ch => cases hpd
  | outgrown => cases hpd

theorem ysound_of_Tr {P : Program} {ids : List Nat} {args : List AV} {site : Nat} {t : List AV} {rest : List AObj} {Q : Exit → St → Prop}
    (htr : Tr P ids.length (Globs.site site).2.1 ⟨fillT t (Globs.site site).1 args, .dead :: rest⟩ (fun e s1 => e = .normal ∧ Tr P ids.length (Globs.site site).2.2 s1 Q))
    (hin : okIn ids.length (.yld 0 :: args) (.loop site t none :: rest) = true) (hlen : args.length = (Globs.site site).1.size) {m : Nat} (hlt : ltL m (fillT t (Globs.site site).1 args) = true) {hr : List AObj} {nid : Nat} (hids : okIds ids nid = true)
    (hhr : ∀ k o, (AObj.loop site t none :: rest)[k]? = some o → hget hr (sig ids nid k) = renO (sig ids nid) o) {pd : Option Code} {h1 : List AObj} (hQ : ∀ e s, Q e s → pdOf e = some pd ∧ likeH (.dead :: h1) s.h = .dead :: h1)
    (hout : okOut ids.length (.bool pd.isNone) (.loop site t pd :: h1) = true) : YSound P (renL (sig ids nid) (.yld 0 :: args)) hr nid (.bool pd.isNone) (effsOf (sig ids nid) 0 (.loop site t pd :: h1)) := by
  intro B w0 M0 hh w ρ M l vs H hle hfr hargs
  obtain ⟨B', ρc, H0, hargs0, hlt', hlive, back⟩ := framed hin hids hhr H hle hargs
  simp only [repL] at hargs0
  obtain ⟨hy, hargs0⟩ := hargs0
  simp only [rep] at hy
  obtain ⟨r, hr, hv⟩ := hy
  obtain rfl : l = r := by injection hv with hv; injection hv
  have hn : 0 < ids.length := by
    simp only [okIn, Bool.and_eq_true, beq_iff_eq] at hin
    have := hin.1.1.1
    simp at this; omega
  have htk : ltL ids.length t = true := by
    simp only [okIn, Bool.and_eq_true, List.all_eq_true] at hin
    exact hin.1.2 (.loop site t none) List.mem_cons_self
  obtain ⟨fn, tmps, asg, body, hrun, hround⟩ := round_run H0 (n := 0) (site := site) (t := t) rfl hr (k := ids.length) hn htk hargs0 hlen hlt htr (fun e s h => ⟨_, (hQ e s h).1⟩)
  refine ⟨fn, tmps, asg, body, hrun, hround.mono ?_⟩
  rintro e w' ⟨ex, s', ρ', M', pd', hq, hpd, rfl, hk, hM, H'⟩
  obtain ⟨q1, q2⟩ := hQ ex s' hq
  rw [hpd] at q1
  injection q1 with q1
  subst q1
  have hlike : likeH (.loop site t pd' :: h1) (hset s'.h 0 (.loop site t pd')) = .loop site t pd' :: h1 := by
    cases hs : s'.h with
    | nil => rw [hs] at q2; simp [likeH] at q2
    | cons o os =>
      rw [hs] at q2
      simp only [likeH, List.cons.injEq, true_and] at q2
      simp only [hset, likeH, q2]
  obtain ⟨ρ2, M2, k1, k2, k3, k4⟩ := back w' _ ρ' M' (.bool pd'.isNone) (.bool pd'.isNone) (.loop site t pd' :: h1) hout hfr hlike hk hM H' (by simp [rep])
  exact ⟨_, ρ2, M2, rfl, k1, k2, k3, by simpa [ren] using k4⟩

/-- How a round may end: in one of two ways. -/
def rdEnds (b : Bool) (ea : Exit) (ha : List AObj) (eb : Exit) (hb : List AObj) (e : Exit) (s : St) : Prop :=
  (e = ea ∧ b = true ∧ likeH (.dead :: ha) s.h = .dead :: ha) ∨ (e = eb ∧ b = false ∧ likeH (.dead :: hb) s.h = .dead :: hb)
def factYK (site : Nat) (tps : List TP) (cps : List CP) (hps : List HP) (b : TPL.Ty (.c (.yld 0) :: tps) → HPL.Ty (.loop site cps :: hps) → Bool) (pa pb : Option Code) (ha hb : TPL.Ty (.c (.yld 0) :: tps) → HPL.Ty (.loop site cps :: hps) → List AObj)
    (pre : TPL.Ty (.c (.yld 0) :: tps) → HPL.Ty (.loop site cps :: hps) → List Prop) (args : List AV) (h : List AObj) (nid : Nat) : Option YB :=
  let ids := meet (.c (.yld 0) :: tps) (.loop site cps :: hps) args h
  if okIds ids nid then match TPL.dec ids (.c (.yld 0) :: tps) args, HPL.dec ids h (.loop site cps :: hps) ids with
    | some t, some u => some (.two (b t u) (.bool pa.isNone, effsOf (sig ids nid) 0 (.loop site (CPL.enc cps u.1) pa :: ha t u), pre t u) (.bool pb.isNone, effsOf (sig ids nid) 0 (.loop site (CPL.enc cps u.1) pb :: hb t u), pre t u))
    | _, _ => none
  else none
/-- Slots' shapes by their numbers. -/
def cpsOf (n : Nat) (l : List (Nat × CP)) : List CP := (List.range n).map fun i => (l.lookup i).getD .any
/-- What is known of a round, by its theorem. -/
noncomputable def factY {P : Program} (site : Nat) (tps : List TP) (cps : List CP) (hps : List HP) (b : TPL.Ty (.c (.yld 0) :: tps) → HPL.Ty (.loop site cps :: hps) → Bool) (ea eb : Exit) (pa pb : Option Code) (ha hb : TPL.Ty (.c (.yld 0) :: tps) → HPL.Ty (.loop site cps :: hps) → List AObj)
    (pre : TPL.Ty (.c (.yld 0) :: tps) → HPL.Ty (.loop site cps :: hps) → List Prop) (hpa : pdOf ea = some pa) (hpb : pdOf eb = some pb)
    (hin : ∀ t u, okIn (hps.length + 1) (TPL.enc (.c (.yld 0) :: tps) t) (HPL.enc (.loop site cps :: hps) u) = true) (hlen : ∀ t, (TPL.enc tps t).length = (Globs.site site).1.size)
    (hlt : ∀ t u, ltL (hps.length + 1) (fillT (CPL.enc cps u) (Globs.site site).1 (TPL.enc tps t)) = true)
    (hoa : ∀ t u, okOut (hps.length + 1) (.bool pa.isNone) (.loop site (CPL.enc cps u.1) pa :: ha t u) = true) (hob : ∀ t u, okOut (hps.length + 1) (.bool pb.isNone) (.loop site (CPL.enc cps u.1) pb :: hb t u) = true)
    (t0 : TPL.Ty (.c (.yld 0) :: tps) → HPL.Ty (.loop site cps :: hps) → List AV) (ht0 : ∀ t u, fillT (CPL.enc cps u.1) (Globs.site site).1 (TPL.enc tps t.2) = t0 t u)
    (tr : ∀ t u, (∀ p ∈ pre t u, p) → Tr P (hps.length + 1) (Globs.site site).2.1 ⟨t0 t u, .dead :: HPL.enc hps u.2⟩ (fun e s1 => e = .normal ∧ Tr P (hps.length + 1) (Globs.site site).2.2 s1 (rdEnds (b t u) ea (ha t u) eb (hb t u)))) : FactY P where
  K := factYK site tps cps hps b pa pb ha hb pre
  ok := fun args h nid r hkk => by
    unfold factYK at hkk
    simp only at hkk
    generalize meet (.c (.yld 0) :: tps) (.loop site cps :: hps) args h = ids at hkk
    split at hkk
    case isFalse => cases hkk
    rename_i hids
    split at hkk
    case h_2 => cases hkk
    rename_i t u ht hu
    injection hkk with hkk
    subst hkk
    obtain ⟨hl, ho⟩ := HPL.dec_eq nid (.loop site cps :: hps) hu
    have hlen' : hps.length + 1 = ids.length := by
      have : ∀ (ps : List HP) (u : HPL.Ty ps), (HPL.enc ps u).length = ps.length := by
        intro ps
        induction ps with
        | nil => intro u; rfl
        | cons p ps ih => intro u; simp [HPL.enc, ih]
      rw [← hl, this]; rfl
    have hobj : ∀ k o, (HPL.enc (.loop site cps :: hps) u)[k]? = some o → hget h (sig ids nid k) = renO (sig ids nid) o := by
      intro k o hko
      have hlt : k < ids.length := by rw [← hl]; exact (List.getElem?_eq_some_iff.1 hko).1
      obtain ⟨o', h1, h2, _⟩ := ho k ids[k] (List.getElem?_eq_getElem hlt)
      rw [hko] at h1
      injection h1 with h1
      subst h1
      rw [sig_at (List.getElem?_eq_getElem hlt)]
      exact h2
    have hi := hin t u
    have qa := hoa t u
    have qb := hob t u
    have ql := hlt t.2 u.1
    rw [hlen'] at hi qa qb ql
    have hargs := TPL.dec_eq nid (.c (.yld 0) :: tps) ht
    simp only [YBOk]
    refine ⟨fun hb' hn => ?_, fun hb' hn => ?_⟩
    · have htr := tr t u hn
      rw [← ht0] at htr
      rw [hlen'] at htr
      rw [hargs]
      refine ysound_of_Tr htr hi (hlen t.2) ql hids hobj (fun e s hq => ?_) qa
      rcases hq with ⟨rfl, _, h3⟩ | ⟨_, h2, _⟩
      · exact ⟨hpa, h3⟩
      · rw [hb'] at h2; cases h2
    · have htr := tr t u hn
      rw [← ht0] at htr
      rw [hlen'] at htr
      rw [hargs]
      refine ysound_of_Tr htr hi (hlen t.2) ql hids hobj (fun e s hq => ?_) qb
      rcases hq with ⟨_, h2, _⟩ | ⟨rfl, _, h3⟩
      · rw [hb'] at h2; cases h2
      · exact ⟨hpb, h3⟩
end Go.Eng
