/- The engine, part 16: functions that defer. -/
import Derived.Test.YtofimhodpemmiaaEng15
namespace Go.Eng
open Go.RowKit (Below)

/-- A function of plain values begins. -/
theorem pure_begin {B : Nat → Prop} {w0 w : World} {M0 M : Mem} {hh : List AObj} {ρ : Loc} {vs : List Value} {args : List AV} {fn : Func} (H : SimH B w0 M0 hh w ρ M) (hargs : repL ρ M noG args vs) (harg : ltL 0 args = true) :
    Sim [] (fun b => b < w.heap.size) w M (fnBegins fn args []) { tmps := (⟨vs⟩ : Array Value) ++ Array.replicate (fn.ntmps - (⟨vs⟩ : Array Value).size) undef, defers := [] } w (fun _ => none) M := by
  have hlen := repL_length hargs
  have hargs' := repL_cut args vs harg hargs
  have hcut : Loc.cut ρ 0 = fun _ => none := by funext i; simp [Loc.cut]
  rw [hcut] at hargs'
  refine ⟨⟨fun id => by simp [fnBegins, hget, okObj], fun _ _ => rfl, fun i j r h1 => by simp [fnBegins, hget] at h1, H.mem, fun _ _ _ => rfl, Keeps.refl _ _, fun _ h => h⟩, ⟨by simp [fnBegins, hlen], rfl, fun i => ?_⟩⟩
  simp only [fnBegins]
  rw [List.getD_eq_getElem?_getD, Array.getD_eq_getD_getElem?]
  rcases Nat.lt_or_ge i args.length with hi | hi
  · rw [List.getElem?_append_left hi, Array.getElem?_append_left (by simpa [← hlen] using hi)]
    obtain ⟨v, hv, hr⟩ := repL_get hargs' i args[i] (List.getElem?_eq_getElem hi)
    rw [List.getElem?_eq_getElem hi]
    have hv' : (⟨vs⟩ : Array Value)[i]? = some v := by simpa using hv
    rw [hv']
    simp only [Option.getD_some]
    have hcl : args[i].lt 0 = true := by
      have := ltL_getD harg i
      rw [List.getD_eq_getElem?_getD, List.getElem?_eq_getElem hi] at this
      exact this
    generalize args[i] = y at hr hcl ⊢
    cases y
    case grd => simp [AV.lt] at hcl
    all_goals exact hr
  · rw [List.getElem?_append_right hi]
    have : (List.replicate (fn.ntmps - args.length) AV.unk)[i - args.length]?.getD AV.unk = AV.unk := by
      rw [List.getElem?_replicate]; split <;> rfl
    rw [this]
    simp [repS, rep]
/-- And ends. -/
theorem pure_end {B : Nat → Prop} {w0 w w' : World} {M0 M M' : Mem} {hh h' : List AObj} {ρ ρ' : Loc} {x : AV} {v : Value} (H : SimH B w0 M0 hh w ρ M) (H' : SimH (fun b => b < w.heap.size) w M h' w' ρ' M') (hM : M.le M') (hx : x.lt 0 = true) (hr : rep ρ' M' noG x v) :
    ∃ ρ2 M2, ρ.only ρ2 [] ∧ M.le M2 ∧ SimH B w0 M0 (applyEff hh []) w' ρ2 M2 ∧ rep ρ2 M2 noG x v := by
  have h0 : Loc.cut ρ' 0 = fun _ => none := by funext i; simp [Loc.cut]
  have h1 := rep_cut x v hx hr
  rw [h0] at h1
  refine ⟨ρ, M', Loc.only_refl _ _, hM, ?_, rep_mono (fun i r h => by cases h) (Mem.le_refl _) (fun _ _ h => h) x v h1⟩
  refine H.world hM ?_ H'.mem ?_ ?_
  · intro i r hd hr
    have hlt := (H.own_lt hd hr).1
    exact ⟨H'.below.block r hlt, fun off hm => by rw [H'.old r off hlt]; exact hm⟩
  · intro b o hb
    exact H'.old b o (H.size b hb)
  · exact H'.below.mono fun k hk => H.size k hk
/-- A deferred call is laid by. -/
theorem defer_wp {E : Env} {B : Nat → Prop} {w0 w : World} {M0 M : Mem} {ρ : Loc} {a : Act} (hK : KOk E) {om od : Oper} {s s1 : St} {D : List Deferred} {d fc : Nat} {caps : List AV} (H : Sim D B w0 M0 s a w ρ M)
    (hm : stepR E [om, od] [] om (cleanS s) = some ([], s1)) (hmg : om.guard = none) (hd : od.dst = none) (hg : od.guard = none) (hop : od.op = .defer { callee := .value (.tmp d), args := #[], argTypes := #[] })
    (hs1 : s1.t.getD d .unk = .fn fc caps) (hcl : s1.t.map (ungrd []) = s1.t) {Q : Exit → Act → World → Prop} {id : Nat}
    (hQ : ∀ a' w' ρ' M' cvs, ρ.le ρ' → M.le M' → repL ρ' M' noG caps cvs → Sim ({ target := .fn (.func fc) ⟨cvs⟩, args := #[] } :: D) B w0 M0 s1 a' w' ρ' M' → Q .normal a' w') : (Code.region id [om, od].toArray false).wp E.P Q a w := by
  refine wp_region_lit (wpList_step fun K hK1 => stepR_sound hK (fun _ _ h => by cases h) hm (by simp) H.h H.t.clean K Q ?_)
  intro v0 w' ρ' M' l1 l2 H' T'
  generalize a.put om.dst v0 = a' at T' ⊢
  refine hK1 _ _ (wpList_step fun K2 hK2 => ?_)
  rw [if_pos (by simp [Region.wanted, hg])]
  have hv := T'.at_ d
  rw [hs1] at hv
  simp only [repS, rep] at hv
  obtain ⟨cvs, hv, hcvs⟩ := hv
  have hexec : (execOp a'.eval od).run E.P w' = .ok (.defer { target := .fn (.func fc) ⟨cvs⟩, args := #[] }) w' := by
    obtain ⟨dst, op, ty, pos, after, guard⟩ := od
    simp only at hop
    subst hop
    have he : a'.eval (.tmp d) = .func (.func fc) #[] ⟨cvs⟩ := hv
    simp [execOp, resolve, he, Deferred.ofValue]
  unfold Oper.wp
  rw [hexec]
  refine hK2 _ _ (wpList_nil ?_)
  rw [hd]
  refine hQ _ w' ρ' M' cvs l1 l2 hcvs ⟨H', ⟨T'.len, by show _ :: a'.defers = _; rw [T'.defers], fun i => ?_⟩⟩
  have := T'.at_ i
  show repS ρ' M' noG (s1.t.getD i .unk) (a'.tmps.getD i undef)
  have hc2 : ungrd [] (s1.t.getD i .unk) = s1.t.getD i .unk := by
    have := congrArg (fun l => l.getD i .unk) hcl
    rwa [map_getD _ rfl] at this
  generalize s1.t.getD i .unk = y at this hc2 ⊢
  cases y
  case grd => simp [ungrd] at hc2
  all_goals exact this
end Go.Eng
