/- Leases: guards. -/
import Derived.Test.YtofimhodpemmiaaLive
set_option maxRecDepth 100000
namespace Go.Proofs.Ytofimhodpemmiaa
open Go Go.Eng

noncomputable def E5 : Env := envOf [name_fact, rname_fact, mine_fact, rmine_fact, ref_fact, rel_fact, rrel_fact, rtry_fact, try_fact, live_fact] [must_fact] [] fun _ => none
def newgF  : Int :=
  (0 : Int)
def newgR  : Tree :=
  (.leaf .ret ⟨slots 2 [(0, .ptr 0 0)], [.cells 60 [.int .u64 0]]⟩)
theorem newg_tr  : Tr Try.prog 0 (bodyOf Try.f19) (fnBegins Try.f19 [] []) (fnEnds Try.prog Try.f19 (.ptr 0 0) [.cells 60 [.int .u64 newgF]]) := by
  refine Tr_tree (kok _ _ _ _) (E := E5) (L := noLoops) 60 9999 LoopsOk.none (newgR ) (by kernel_rfl) (by kernel_rfl) ?_ (by kernel_rfl) ?_
  · intro o ho; exact absurd ho (by rw [show obl (evCode E5 noLoops 60 9999 (bodyOf Try.f19) (fnBegins Try.f19 [] [])) = [] from by kernel_rfl]; simp)
  · unfold newgR
    exact ⟨trivial, by kernel_rfl, by kernel_rfl⟩
def newgK : List AV → List AObj → Nat → Option Out
  | [], h, nid => some (.ptr nid 0, [(nid, .cells 60 [.int .u64 newgF])], [])
  | _, _, _ => none
noncomputable def newg_fact : Fact Try.prog where
  f := 19
  K := newgK
  ent := ent_of (fn := Try.f19) (by kernel_rfl) rfl (by kernel_rfl)
  ok := fun args h nid x effs need hk hn => by
    unfold newgK at hk
    split at hk
    · skip
      simp only [Option.some.injEq, Prod.mk.injEq] at hk
      obtain ⟨rfl, rfl, rfl⟩ := hk
      have hs := sound_of_Tr (f := 19) (fn := Try.f19) (by kernel_rfl) rfl (ids := []) (newg_tr  ) (by kernel_rfl) (by kernel_rfl) (hr := h) (nid := nid) (by kernel_rfl) (fun k o hk => by
        simp at hk)
      exact hs
    · cases hk
def rnewgF  : Int :=
  (0 : Int)
def rnewgR  : Tree :=
  (.leaf .ret ⟨slots 3 [(0, .ptr 0 0)], [.cells 62 [.int .u64 0]]⟩)
theorem rnewg_tr  : Tr Try.prog 0 (bodyOf Try.f20) (fnBegins Try.f20 [] []) (fnEnds Try.prog Try.f20 (.ptr 0 0) [.cells 62 [.int .u64 rnewgF]]) := by
  refine Tr_tree (kok _ _ _ _) (E := E5) (L := noLoops) 60 9999 LoopsOk.none (rnewgR ) (by kernel_rfl) (by kernel_rfl) ?_ (by kernel_rfl) ?_
  · intro o ho; exact absurd ho (by rw [show obl (evCode E5 noLoops 60 9999 (bodyOf Try.f20) (fnBegins Try.f20 [] [])) = [] from by kernel_rfl]; simp)
  · unfold rnewgR
    exact ⟨trivial, by kernel_rfl, by kernel_rfl⟩
def rnewgK : List AV → List AObj → Nat → Option Out
  | [], h, nid => some (.ptr nid 0, [(nid, .cells 62 [.int .u64 rnewgF])], [])
  | _, _, _ => none
noncomputable def rnewg_fact : Fact Try.prog where
  f := 20
  K := rnewgK
  ent := ent_of (fn := Try.f20) (by kernel_rfl) rfl (by kernel_rfl)
  ok := fun args h nid x effs need hk hn => by
    unfold rnewgK at hk
    split at hk
    · skip
      simp only [Option.some.injEq, Prod.mk.injEq] at hk
      obtain ⟨rfl, rfl, rfl⟩ := hk
      have hs := sound_of_Tr (f := 20) (fn := Try.f20) (by kernel_rfl) rfl (ids := []) (rnewg_tr  ) (by kernel_rfl) (by kernel_rfl) (hr := h) (nid := nid) (by kernel_rfl) (fun k o hk => by
        simp at hk)
      exact hs
    · cases hk
def checknF (x : Int) : Int :=
  (1 : Int)
def checknR (x : Int) : Tree :=
  (.ask true
    (.leaf .ret ⟨slots 19 [(4, .int .i64 1)], []⟩)
    .fail)
theorem checkn_tr (x : Int) : Tr Try.prog 0 (bodyOf Try.f21) (fnBegins Try.f21 [.nilp, .int .u64 x] []) (fnEnds Try.prog Try.f21 (.int .i64 (checknF x)) []) := by
  refine Tr_tree (kok _ _ _ _) (E := E5) (L := noLoops) 60 9999 LoopsOk.none (checknR x) (by kernel_rfl) (by kernel_rfl) ?_ (by kernel_rfl) ?_
  · intro o ho; exact absurd ho (by rw [show obl (evCode E5 noLoops 60 9999 (bodyOf Try.f21) (fnBegins Try.f21 [.nilp, .int .u64 x] [])) = [] from by kernel_rfl]; simp)
  · unfold checknR
    refine ⟨fun h0 => ?_, fun h0 => ?_⟩
    · have hF : checknF x = (1 : Int) := by simp only [checknF, h0, cond_true, cond_false]
      exact ⟨trivial, by first | (rw [hF]; kernel_rfl) | kernel_rfl, by first | (rw [hF]; kernel_rfl) | kernel_rfl⟩
    · exact absurd h0 (by simp)
def checknK : List AV → List AObj → Nat → Option Out
  | [.nilp, .int .u64 x], h, nid => some (.int .i64 (checknF x), [], [])
  | _, _, _ => none
noncomputable def checkn_fact : Fact Try.prog where
  f := 21
  K := checknK
  ent := ent_of (fn := Try.f21) (by kernel_rfl) rfl (by kernel_rfl)
  ok := fun args h nid x effs need hk hn => by
    unfold checknK at hk
    split at hk
    · rename_i x
      simp only [Option.some.injEq, Prod.mk.injEq] at hk
      obtain ⟨rfl, rfl, rfl⟩ := hk
      have hs := sound_of_Tr (f := 21) (fn := Try.f21) (by kernel_rfl) rfl (ids := []) (checkn_tr x ) (by kernel_rfl) (by kernel_rfl) (hr := h) (nid := nid) (by kernel_rfl) (fun k o hk => by
        simp at hk)
      exact hs
    · cases hk
def checkF (a : Int) (x : Int) : Int × Int :=
  cond (decide (a > x))
    ((9 : Int), a)
    ((0 : Int), x)
def checkR (a : Int) (x : Int) : Tree :=
  (.ask false
    .fail
    (.ask (decide (a > x))
      (.leaf .ret ⟨slots 19 [(4, .int .i64 9)], [.cells 60 [.int .u64 a]]⟩)
      (.leaf .ret ⟨slots 19 [(4, .int .i64 0)], [.cells 60 [.int .u64 x]]⟩)))
theorem check_tr (a : Int) (x : Int) : Tr Try.prog 1 (bodyOf Try.f21) (fnBegins Try.f21 [.ptr 0 0, .int .u64 x] [.cells 60 [.int .u64 a]]) (fnEnds Try.prog Try.f21 (.int .i64 ((checkF a x).1)) [.cells 60 [.int .u64 ((checkF a x).2)]]) := by
  refine Tr_tree (kok _ _ _ _) (E := E5) (L := noLoops) 60 9999 LoopsOk.none (checkR a x) (by kernel_rfl) (by kernel_rfl) ?_ (by kernel_rfl) ?_
  · intro o ho; exact absurd ho (by rw [show obl (evCode E5 noLoops 60 9999 (bodyOf Try.f21) (fnBegins Try.f21 [.ptr 0 0, .int .u64 x] [.cells 60 [.int .u64 a]])) = [] from by kernel_rfl]; simp)
  · unfold checkR
    refine ⟨fun h0 => ?_, fun h0 => ?_⟩
    · exact absurd h0 (by simp)
    · refine ⟨fun h1 => ?_, fun h1 => ?_⟩
      · have hF : checkF a x = ((9 : Int), a) := by simp only [checkF, h0, h1, cond_true, cond_false]
        exact ⟨trivial, by first | (rw [hF]; kernel_rfl) | kernel_rfl, by first | (rw [hF]; kernel_rfl) | kernel_rfl⟩
      · have hF : checkF a x = ((0 : Int), x) := by simp only [checkF, h0, h1, cond_true, cond_false]
        exact ⟨trivial, by first | (rw [hF]; kernel_rfl) | kernel_rfl, by first | (rw [hF]; kernel_rfl) | kernel_rfl⟩
def checkK : List AV → List AObj → Nat → Option Out
  | [.ptr i0 0, .int .u64 x], h, nid => match hget h i0 with
    | .cells t0 [.int .u64 a] => if t0 = 60 ∧ okIds [i0] nid = true then some (.int .i64 ((checkF a x).1), [(i0, .cells 60 [.int .u64 ((checkF a x).2)])], []) else none
    | _ => none
  | _, _, _ => none
noncomputable def check_fact : Fact Try.prog where
  f := 21
  K := checkK
  ent := ent_of (fn := Try.f21) (by kernel_rfl) rfl (by kernel_rfl)
  ok := fun args h nid x effs need hk hn => by
    unfold checkK at hk
    split at hk
    · rename_i i0 x
      split at hk
      · rename_i t0 a hg0
        split at hk
        · rename_i hc
          simp only [Option.some.injEq, Prod.mk.injEq] at hk
          obtain ⟨rfl, rfl, rfl⟩ := hk
          obtain ⟨rfl, hids⟩ := hc
          have hs := sound_of_Tr (f := 21) (fn := Try.f21) (by kernel_rfl) rfl (ids := [i0]) (check_tr a x ) (by kernel_rfl) (by kernel_rfl) (hr := h) (nid := nid) hids (fun k o hk => by
            match k, hk with
            | 0, hk => obtain rfl := Option.some.inj hk; exact hg0
            | k + 1, hk => cases hk)
          exact hs
        · cases hk
      · cases hk
    · cases hk
def rcheckF (a : Int) (x : Int) : Int × Int :=
  cond (decide (x < a))
    ((9 : Int), a)
    ((0 : Int), x)
def rcheckR (a : Int) (x : Int) : Tree :=
  (.ask false
    .fail
    (.ask (decide (x < a))
      (.leaf .ret ⟨slots 19 [(4, .int .i64 9)], [.cells 62 [.int .u64 a]]⟩)
      (.leaf .ret ⟨slots 19 [(4, .int .i64 0)], [.cells 62 [.int .u64 x]]⟩)))
theorem rcheck_tr (a : Int) (x : Int) : Tr Try.prog 1 (bodyOf Try.f22) (fnBegins Try.f22 [.ptr 0 0, .int .u64 x] [.cells 62 [.int .u64 a]]) (fnEnds Try.prog Try.f22 (.int .i64 ((rcheckF a x).1)) [.cells 62 [.int .u64 ((rcheckF a x).2)]]) := by
  refine Tr_tree (kok _ _ _ _) (E := E5) (L := noLoops) 60 9999 LoopsOk.none (rcheckR a x) (by kernel_rfl) (by kernel_rfl) ?_ (by kernel_rfl) ?_
  · intro o ho; exact absurd ho (by rw [show obl (evCode E5 noLoops 60 9999 (bodyOf Try.f22) (fnBegins Try.f22 [.ptr 0 0, .int .u64 x] [.cells 62 [.int .u64 a]])) = [] from by kernel_rfl]; simp)
  · unfold rcheckR
    refine ⟨fun h0 => ?_, fun h0 => ?_⟩
    · exact absurd h0 (by simp)
    · refine ⟨fun h1 => ?_, fun h1 => ?_⟩
      · have hF : rcheckF a x = ((9 : Int), a) := by simp only [rcheckF, h0, h1, cond_true, cond_false]
        exact ⟨trivial, by first | (rw [hF]; kernel_rfl) | kernel_rfl, by first | (rw [hF]; kernel_rfl) | kernel_rfl⟩
      · have hF : rcheckF a x = ((0 : Int), x) := by simp only [rcheckF, h0, h1, cond_true, cond_false]
        exact ⟨trivial, by first | (rw [hF]; kernel_rfl) | kernel_rfl, by first | (rw [hF]; kernel_rfl) | kernel_rfl⟩
def rcheckK : List AV → List AObj → Nat → Option Out
  | [.ptr i0 0, .int .u64 x], h, nid => match hget h i0 with
    | .cells t0 [.int .u64 a] => if t0 = 62 ∧ okIds [i0] nid = true then some (.int .i64 ((rcheckF a x).1), [(i0, .cells 62 [.int .u64 ((rcheckF a x).2)])], []) else none
    | _ => none
  | _, _, _ => none
noncomputable def rcheck_fact : Fact Try.prog where
  f := 22
  K := rcheckK
  ent := ent_of (fn := Try.f22) (by kernel_rfl) rfl (by kernel_rfl)
  ok := fun args h nid x effs need hk hn => by
    unfold rcheckK at hk
    split at hk
    · rename_i i0 x
      split at hk
      · rename_i t0 a hg0
        split at hk
        · rename_i hc
          simp only [Option.some.injEq, Prod.mk.injEq] at hk
          obtain ⟨rfl, rfl, rfl⟩ := hk
          obtain ⟨rfl, hids⟩ := hc
          have hs := sound_of_Tr (f := 22) (fn := Try.f22) (by kernel_rfl) rfl (ids := [i0]) (rcheck_tr a x ) (by kernel_rfl) (by kernel_rfl) (hr := h) (nid := nid) hids (fun k o hk => by
            match k, hk with
            | 0, hk => obtain rfl := Option.some.inj hk; exact hg0
            | k + 1, hk => cases hk)
          exact hs
        · cases hk
      · cases hk
    · cases hk
def termnF  : Int :=
  (0 : Int)
def termnR  : Tree :=
  (.ask true
    (.leaf .ret ⟨slots 9 [(2, .int .u64 0)], []⟩)
    .fail)
theorem termn_tr  : Tr Try.prog 0 (bodyOf Try.f23) (fnBegins Try.f23 [.nilp] []) (fnEnds Try.prog Try.f23 (.int .u64 termnF) []) := by
  refine Tr_tree (kok _ _ _ _) (E := E5) (L := noLoops) 60 9999 LoopsOk.none (termnR ) (by kernel_rfl) (by kernel_rfl) ?_ (by kernel_rfl) ?_
  · intro o ho; exact absurd ho (by rw [show obl (evCode E5 noLoops 60 9999 (bodyOf Try.f23) (fnBegins Try.f23 [.nilp] [])) = [] from by kernel_rfl]; simp)
  · unfold termnR
    refine ⟨fun h0 => ?_, fun h0 => ?_⟩
    · have hF : termnF = (0 : Int) := by simp only [termnF, h0, cond_true, cond_false]
      exact ⟨trivial, by first | (rw [hF]; kernel_rfl) | kernel_rfl, by first | (rw [hF]; kernel_rfl) | kernel_rfl⟩
    · exact absurd h0 (by simp)
def termnK : List AV → List AObj → Nat → Option Out
  | [.nilp], h, nid => some (.int .u64 termnF, [], [])
  | _, _, _ => none
noncomputable def termn_fact : Fact Try.prog where
  f := 23
  K := termnK
  ent := ent_of (fn := Try.f23) (by kernel_rfl) rfl (by kernel_rfl)
  ok := fun args h nid x effs need hk hn => by
    unfold termnK at hk
    split at hk
    · skip
      simp only [Option.some.injEq, Prod.mk.injEq] at hk
      obtain ⟨rfl, rfl, rfl⟩ := hk
      have hs := sound_of_Tr (f := 23) (fn := Try.f23) (by kernel_rfl) rfl (ids := []) (termn_tr  ) (by kernel_rfl) (by kernel_rfl) (hr := h) (nid := nid) (by kernel_rfl) (fun k o hk => by
        simp at hk)
      exact hs
    · cases hk
def termF (a : Int) : Int × Int :=
  (a, a)
def termR (a : Int) : Tree :=
  (.ask false
    .fail
    (.leaf .ret ⟨slots 9 [(2, .int .u64 a)], [.cells 60 [.int .u64 a]]⟩))
theorem term_tr (a : Int) : Tr Try.prog 1 (bodyOf Try.f23) (fnBegins Try.f23 [.ptr 0 0] [.cells 60 [.int .u64 a]]) (fnEnds Try.prog Try.f23 (.int .u64 ((termF a).1)) [.cells 60 [.int .u64 ((termF a).2)]]) := by
  refine Tr_tree (kok _ _ _ _) (E := E5) (L := noLoops) 60 9999 LoopsOk.none (termR a) (by kernel_rfl) (by kernel_rfl) ?_ (by kernel_rfl) ?_
  · intro o ho; exact absurd ho (by rw [show obl (evCode E5 noLoops 60 9999 (bodyOf Try.f23) (fnBegins Try.f23 [.ptr 0 0] [.cells 60 [.int .u64 a]])) = [] from by kernel_rfl]; simp)
  · unfold termR
    refine ⟨fun h0 => ?_, fun h0 => ?_⟩
    · exact absurd h0 (by simp)
    · have hF : termF a = (a, a) := by simp only [termF, h0, cond_true, cond_false]
      exact ⟨trivial, by first | (rw [hF]; kernel_rfl) | kernel_rfl, by first | (rw [hF]; kernel_rfl) | kernel_rfl⟩
def termK : List AV → List AObj → Nat → Option Out
  | [.ptr i0 0], h, nid => match hget h i0 with
    | .cells t0 [.int .u64 a] => if t0 = 60 ∧ okIds [i0] nid = true then some (.int .u64 ((termF a).1), [], []) else none
    | _ => none
  | _, _, _ => none
noncomputable def term_fact : Fact Try.prog where
  f := 23
  K := termK
  ent := ent_of (fn := Try.f23) (by kernel_rfl) rfl (by kernel_rfl)
  ok := fun args h nid x effs need hk hn => by
    unfold termK at hk
    split at hk
    · rename_i i0
      split at hk
      · rename_i t0 a hg0
        split at hk
        · rename_i hc
          simp only [Option.some.injEq, Prod.mk.injEq] at hk
          obtain ⟨rfl, rfl, rfl⟩ := hk
          obtain ⟨rfl, hids⟩ := hc
          have hs := sound_of_Tr (f := 23) (fn := Try.f23) (by kernel_rfl) rfl (ids := [i0]) (term_tr a ) (by kernel_rfl) (by kernel_rfl) (hr := h) (nid := nid) hids (fun k o hk => by
            match k, hk with
            | 0, hk => obtain rfl := Option.some.inj hk; exact hg0
            | k + 1, hk => cases hk)
          refine KSound.drop hs fun e he => ?_
          have hlt := hids
          simp only [okIds, Bool.and_eq_true, List.all_eq_true, decide_eq_true_eq] at hlt
          obtain rfl := List.mem_singleton.1 he
          exact ⟨hg0, nofun, hlt.2 _ List.mem_cons_self⟩
        · cases hk
      · cases hk
    · cases hk
def forknR  : Tree :=
  (.ask true
    (.leaf .ret ⟨slots 9 [(2, .nilp)], []⟩)
    .fail)
theorem forkn_tr  : Tr Try.prog 0 (bodyOf Try.f24) (fnBegins Try.f24 [.nilp] []) (fnEnds Try.prog Try.f24 (.nilp) []) := by
  refine Tr_tree (kok _ _ _ _) (E := E5) (L := noLoops) 60 9999 LoopsOk.none (forknR ) (by kernel_rfl) (by kernel_rfl) ?_ (by kernel_rfl) ?_
  · intro o ho; exact absurd ho (by rw [show obl (evCode E5 noLoops 60 9999 (bodyOf Try.f24) (fnBegins Try.f24 [.nilp] [])) = [] from by kernel_rfl]; simp)
  · unfold forknR
    refine ⟨fun h0 => ?_, fun h0 => ?_⟩
    · exact ⟨trivial, by kernel_rfl, by kernel_rfl⟩
    · exact absurd h0 (by simp)
def forknK : List AV → List AObj → Nat → Option Out
  | [.nilp], h, nid => some (.nilp, [], [])
  | _, _, _ => none
noncomputable def forkn_fact : Fact Try.prog where
  f := 24
  K := forknK
  ent := ent_of (fn := Try.f24) (by kernel_rfl) rfl (by kernel_rfl)
  ok := fun args h nid x effs need hk hn => by
    unfold forknK at hk
    split at hk
    · skip
      simp only [Option.some.injEq, Prod.mk.injEq] at hk
      obtain ⟨rfl, rfl, rfl⟩ := hk
      have hs := sound_of_Tr (f := 24) (fn := Try.f24) (by kernel_rfl) rfl (ids := []) (forkn_tr  ) (by kernel_rfl) (by kernel_rfl) (hr := h) (nid := nid) (by kernel_rfl) (fun k o hk => by
        simp at hk)
      exact hs
    · cases hk
def forkF (a : Int) : Int × Int :=
  (a, a)
def forkR (a : Int) : Tree :=
  (.ask false
    .fail
    (.leaf .ret ⟨slots 9 [(2, .ptr 1 0)], [.cells 60 [.int .u64 a], .cells 60 [.int .u64 a]]⟩))
theorem fork_tr (a : Int) : Tr Try.prog 1 (bodyOf Try.f24) (fnBegins Try.f24 [.ptr 0 0] [.cells 60 [.int .u64 a]]) (fnEnds Try.prog Try.f24 (.ptr 1 0) [.cells 60 [.int .u64 ((forkF a).1)], .cells 60 [.int .u64 ((forkF a).2)]]) := by
  refine Tr_tree (kok _ _ _ _) (E := E5) (L := noLoops) 60 9999 LoopsOk.none (forkR a) (by kernel_rfl) (by kernel_rfl) ?_ (by kernel_rfl) ?_
  · intro o ho; exact absurd ho (by rw [show obl (evCode E5 noLoops 60 9999 (bodyOf Try.f24) (fnBegins Try.f24 [.ptr 0 0] [.cells 60 [.int .u64 a]])) = [] from by kernel_rfl]; simp)
  · unfold forkR
    refine ⟨fun h0 => ?_, fun h0 => ?_⟩
    · exact absurd h0 (by simp)
    · have hF : forkF a = (a, a) := by simp only [forkF, h0, cond_true, cond_false]
      exact ⟨trivial, by first | (rw [hF]; kernel_rfl) | kernel_rfl, by first | (rw [hF]; kernel_rfl) | kernel_rfl⟩
def forkK : List AV → List AObj → Nat → Option Out
  | [.ptr i0 0], h, nid => match hget h i0 with
    | .cells t0 [.int .u64 a] => if t0 = 60 ∧ okIds [i0] nid = true then some (.ptr nid 0, [(i0, .cells 60 [.int .u64 ((forkF a).1)]), (nid, .cells 60 [.int .u64 ((forkF a).2)])], []) else none
    | _ => none
  | _, _, _ => none
noncomputable def fork_fact : Fact Try.prog where
  f := 24
  K := forkK
  ent := ent_of (fn := Try.f24) (by kernel_rfl) rfl (by kernel_rfl)
  ok := fun args h nid x effs need hk hn => by
    unfold forkK at hk
    split at hk
    · rename_i i0
      split at hk
      · rename_i t0 a hg0
        split at hk
        · rename_i hc
          simp only [Option.some.injEq, Prod.mk.injEq] at hk
          obtain ⟨rfl, rfl, rfl⟩ := hk
          obtain ⟨rfl, hids⟩ := hc
          have hs := sound_of_Tr (f := 24) (fn := Try.f24) (by kernel_rfl) rfl (ids := [i0]) (fork_tr a ) (by kernel_rfl) (by kernel_rfl) (hr := h) (nid := nid) hids (fun k o hk => by
            match k, hk with
            | 0, hk => obtain rfl := Option.some.inj hk; exact hg0
            | k + 1, hk => cases hk)
          exact hs
        · cases hk
      · cases hk
    · cases hk
end Go.Proofs.Ytofimhodpemmiaa
