/- The queue, by hand: what is known of first. -/
import Derived.Test.YtbjifeobhenkfaaDFirst
import Derived.Test.YtbjifeobhenkfaaEC
set_option linter.unusedVariables false
set_option linter.unusedSimpArgs false
set_option maxRecDepth 100000
namespace Go.Proofs.Ytbjifeobhenkfaa
open Go Go.Eng
open Go.RowKit (Below)
theorem repV_sn {M : Mem} {x : XSn} {v : Value} (h : repV M .sn x v) : v = xv x := by
 obtain ⟨h1, h2, h3⟩ := h
 obtain ⟨u, hu, hr⟩ := h3 0 (.int .i64 x.size) rfl
 obtain ⟨u', hu', hr'⟩ := h3 1 (.int .u64 x.tag) rfl
 simp only [Kind.isAgg, if_true] at h1
 obtain ⟨us, rfl⟩ := h1
 simp only [repE, sc] at hr hr'
 subst hr; subst hr'
 have h2 : us.toList.length = 2 := h2
 unfold xv
 congr 1
 apply Array.ext'
 have hu : us.toList[0]? = some _ := hu
 have hu' : us.toList[1]? = some _ := hu'
 revert h2 hu hu'
 generalize us.toList = l
 intro h2 hu hu'
 match l, h2 with
 | [a, b], _ => simp at hu hu'; simp [hu, hu']
def firstF (_ : Int) (b1 : List (XKey × XSn)) (_ : List (XKey × Int)) : XKey × XSn × Bool := match b1 with
 | [] => (default, default, false)
 | x :: _ => (x.1, x.2, true)
theorem first_K {hr : List AObj} {i0 i1 i2 nid : Nat} {n : Int} {a1 : List (XKey × XSn)} {a2 : List (XKey × Int)} (hlen : a1.length ≤ 1)
  (h0 : hget hr i0 = .cells 70 [.map i1, .map i2, .int .i64 n]) (h1 : hget hr i1 = .map ⟨.key, .sn, a1⟩) :
  KSound Try.prog 30 [.ptr i0 0] hr nid (.tup [.agg (encKey (firstF n a1 a2).1), .agg (encSn (firstF n a1 a2).2.1), .bool (firstF n a1 a2).2.2]) [] := by
 intro B w0 M0 h w ρ M vs H hag hfree hrep
 have k0 : hget h i0 = .cells 70 [.map i1, .map i2, .int .i64 n] := by rw [hag i0 (by rw [h0]; simp), h0]
 have k1 : hget h i1 = .map ⟨.key, .sn, a1⟩ := by rw [hag i1 (by rw [h1]; simp), h1]
 have o0 := H.obj i0; rw [k0] at o0
 have o1 := H.obj i1; rw [k1] at o1
 obtain ⟨rD, us, d1, d2, d3, d4, d5⟩ := o0
 obtain ⟨rR, eR, cR, r1, r2, r3, r4, r5⟩ := o1
 obtain ⟨v1, v2, hus⟩ : ∃ v1 v2, us = [.map (some rR), v1, v2] := by
  match us, d4 with
  | [u1, u2, u3], d4 =>
   simp only [repL, rep] at d4
   obtain ⟨⟨q1, e1, rfl⟩, _⟩ := d4
   rw [r1] at e1
   cases e1
   exact ⟨_, _, rfl⟩
 subst hus
 have hvs : vs = [.pointer (some ⟨rD, 0, none⟩)] := by
  match vs, hrep with
  | [u1], hrep =>
   simp only [repL, rep] at hrep
   obtain ⟨⟨q1, e1, rfl⟩, _⟩ := hrep
   rw [d1] at e1; cases e1
   rfl
 subst hvs
 have hkv : ∀ (xs : List (XKey × XSn)) (es : List MapEntry), repEs M .key .sn xs es → (xs = [] ∧ es = []) ∨ ∃ x e xs' es', xs = x :: xs' ∧ es = e :: es' ∧ e.key = kv x.1 ∧ e.val = xv x.2 ∧ repEs M .key .sn xs' es' := fun xs es hh => by
  match xs, es, hh with
  | [], [], _ => exact .inl ⟨rfl, rfl⟩
  | x :: xs, e :: es, hh => simp only [repEs] at hh; exact .inr ⟨x, e, xs, es, rfl, rfl, repV_key hh.1, repV_sn hh.2.1, hh.2.2⟩
  | [], _ :: _, hh => simp [repEs] at hh
  | _ :: _, [], hh => simp [repEs] at hh
 have hsz : (a1 = [] ∧ eR = #[]) ∨ ∃ x e, a1 = [x] ∧ eR = #[e] ∧ e.key = kv x.1 ∧ e.val = xv x.2 := by
  rcases hkv _ _ r4 with ⟨g1, g2⟩ | ⟨x, e, xs', es', g1, g2, g3, g4, g5⟩
  · exact .inl ⟨g1, Array.ext' g2⟩
  · have g1 : a1 = x :: xs' := g1
    refine .inr ⟨x, e, ?_, ?_, g3, g4⟩
    · rw [g1] at hlen ⊢
      simp at hlen
      rw [hlen]
    · rw [g1] at hlen
      simp at hlen
      subst hlen
      rcases hkv _ _ g5 with ⟨_, f2⟩ | ⟨_, _, _, _, f1, _⟩
      · subst f2; exact Array.ext' g2
      · cases f1
 refine (first_raw w d3 r3 r5 ?_ ?_).mono ?_
 · rcases hsz with ⟨_, rfl⟩ | ⟨_, _, _, rfl, _⟩ <;> simp
 · intro e he
   rcases hsz with ⟨_, rfl⟩ | ⟨x, y, _, rfl, g3, g4⟩
   · simp at he
   · simp at he; subst he; exact ⟨_, _, g3, g4⟩
 rintro e w' ⟨⟨k, x, b, rfl, hc⟩, hb⟩
 refine ⟨_, ρ, M, rfl, Loc.only_refl _ _, Mem.le_refl _, H.call hb, ?_⟩
 have hxx : (firstF n a1 a2) = (k, x, b) := by
  rcases hsz with ⟨rfl, rfl⟩ | ⟨x', y', rfl, rfl, g3, g4⟩
  · rcases hc with ⟨_, rfl, rfl, rfl⟩ | ⟨y, f1, _⟩
    · rfl
    · simp at f1
  · rcases hc with ⟨f1, _⟩ | ⟨y, f1, rfl, f3, f4⟩
    · simp at f1
    · simp at f1
      subst f1
      rw [g3] at f3; rw [g4] at f4
      simp only [kv, xv, Value.agg.injEq] at f3 f4
      simp at f3 f4
      obtain ⟨p1, p2⟩ := f3
      obtain ⟨p3, p4⟩ := f4
      obtain ⟨⟨kk, kn⟩, ⟨xs, xt⟩⟩ := x'
      cases k; cases x
      simp at p1 p2 p3 p4
      subst p1; subst p2; subst p3; subst p4
      rfl
 rw [hxx]
 simp [rep, repL, encKey, encSn, kv, xv]
noncomputable def workq_Queue_first_fact : Fact Try.prog where
 f := 30
 K := factK [.c (.ptr 0 0)] [.cells 70 [.map 1, .map 2, .int .i64], .map .key .sn, .map .key (.int .i64)] true (fun _ u => .tup [.agg (encKey (firstF u.1.2.2.1 u.2.1 u.2.2.1).1), .agg (encSn (firstF u.1.2.2.1 u.2.1 u.2.2.1).2.1), .bool (firstF u.1.2.2.1 u.2.1 u.2.2.1).2.2])
  (fun _ _ => []) (fun _ u => [u.2.1.length ≤ 1])
 ent := ent_of (fn := Try.f30) (by kernel_rfl) rfl (by kernel_rfl)
 ok := fun args h nid x effs need hkk hn => by
  unfold factK at hkk
  simp only at hkk
  generalize meet _ _ args h = ids at hkk
  split at hkk
  case isFalse => cases hkk
  split at hkk
  case h_2 => cases hkk
  rename_i t u ht hu
  simp only [Option.some.injEq, Prod.mk.injEq] at hkk
  obtain ⟨rfl, rfl, rfl⟩ := hkk
  obtain ⟨hl, ho⟩ := HPL.dec_eq nid _ hu
  have he := TPL.dec_eq nid _ ht
  match ids, hl with
  | [i0, i1, i2], _ =>
   obtain ⟨o0, e0, f0, _⟩ := ho 0 i0 rfl
   obtain ⟨o1, e1, f1, _⟩ := ho 1 i1 rfl
   injection e0 with e0; injection e1 with e1
   subst e0; subst e1
   have hk := first_K (nid := nid) (a2 := u.2.2.1) (hn _ (List.mem_singleton.2 rfl)) f0 f1
   have ha : args = [.ptr i0 0] := he
   rw [ha]
   exact hk
end Go.Proofs.Ytbjifeobhenkfaa
