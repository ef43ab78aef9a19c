/- The driver, plainly: what a call comes to, case by case; a call that is done again. -/
import Derived.Test.YtpffbkbadnhmmaaDPLI
set_option linter.unusedVariables false
set_option linter.unusedSimpArgs false
set_option maxRecDepth 100000
namespace Go.Proofs.Ytpffbkbadnhmmaa
open Go Go.Eng
section
variable (c : XCall) (b1 : List (ByteArray × Int)) (b2 : List (ByteArray × XVn)) (b3 : List (ByteArray × XSn)) (b4 : List (XTgt × XDone))
def errR (n : Int) : XRes := ⟨n, 0, ⟨#[]⟩, 0⟩
def cbeq (p : XCall) : Bool := ((p.verb == c.verb) && ((decide (p.target = c.target)) && ((p.num == c.num) && ((p.size == c.size) && ((decide (p.zone = c.zone)) && ((decide (p.node = c.node)) && (decide (p.source = c.source))))))))
theorem call_beq (p : XCall) : ((p.verb == c.verb) && ((decide (p.target = c.target)) && ((p.num == c.num) && ((p.size == c.size) && ((decide (p.zone = c.zone)) && ((decide (p.node = c.node)) && (decide (p.source = c.source)))))))) = cbeq c p := rfl
theorem cbeq_iff (p : XCall) : cbeq c p = true ↔ p = c := by
 unfold cbeq
 constructor
 · intro hb
   simp only [Bool.and_eq_true, beq_iff_eq, decide_eq_true_eq] at hb
   obtain ⟨h1, h2, h3, h4, h5, h6, h7⟩ := hb
   cases p; cases c
   simp only at h1 h2 h3 h4 h5 h6 h7
   subst h1; subst h2; subst h3; subst h4; subst h5; subst h6; subst h7
   rfl
 · rintro rfl
   simp
theorem cbeq_no {p : XCall} (h : p ≠ c) : cbeq c p = false := by
 cases hb : cbeq c p with
 | false => rfl
 | true => exact absurd ((cbeq_iff c p).1 hb) h
inductive DoC : XRes × List (ByteArray × Int) × List (ByteArray × XVn) × List (ByteArray × XSn) × List (XTgt × XDone) → Prop
 | form (h : Z11 c = false) : DoC (errR 2, b1, b2, b3, b4)
 | full (h : Z11 c = true) (hn : aget b4 (tgtOf c) = none) (hl : 256 ≤ b4.length) : DoC (errR 7, b1, b2, b3, b4)
 | stale (h : Z11 c = true) (p : XDone) (hp : aget b4 (tgtOf c) = some p) (hl : c.num < p.c.num) : DoC (errR 9, b1, b2, b3, b4)
 | again (h : Z11 c = true) (p : XDone) (hp : aget b4 (tgtOf c) = some p) (hl : p.c = c) : DoC (p.r, b1, b2, b3, b4)
 | other (h : Z11 c = true) (p : XDone) (hp : aget b4 (tgtOf c) = some p) (hl : p.c.num = c.num) (hc : p.c ≠ c) : DoC (errR 6, b1, b2, b3, b4)
 | new (h : Z11 c = true) (hp : ∀ p, aget b4 (tgtOf c) = some p → p.c.num < c.num) (r : XRes) (hr : r = (Z13 c b1 b2 b3 b4).1 ∨ (Z13 c b1 b2 b3 b4).1.err ≠ 0 ∧ r = errR (Z13 c b1 b2 b3 b4).1.err) :
  DoC (r, (Z13 c b1 b2 b3 b4).2.1, (Z13 c b1 b2 b3 b4).2.2.1, (Z13 c b1 b2 b3 b4).2.2.2, aset b4 (tgtOf c) ⟨c, r⟩)
theorem do_cases : DoC c b1 b2 b3 b4 (Zb c b1 b2 b3 b4) := by
 unfold Zb
 simp only [mget_tgt, mset_tgt, of_tgt, call_beq, cmp_lt, cmp_eq]
 cases hR : Z11 c with
 | false => exact .form hR
 | true =>
  simp only [Bool.not_true, cond_false]
  have last : (∀ p, aget b4 (tgtOf c) = some p → p.c.num < c.num) → DoC c b1 b2 b3 b4 (cond (!((((Z13 c b1 b2 b3 b4).1).err) == (0 : Int)))
    ((⟨(((Z13 c b1 b2 b3 b4).1).err), (0 : Int), (⟨#[]⟩ : ByteArray), (0 : Int)⟩ : XRes), (Z13 c b1 b2 b3 b4).2.1, (Z13 c b1 b2 b3 b4).2.2.1, (Z13 c b1 b2 b3 b4).2.2.2, (aset b4 (tgtOf c) (⟨c, (⟨(((Z13 c b1 b2 b3 b4).1).err), (0 : Int), (⟨#[]⟩ : ByteArray), (0 : Int)⟩ : XRes)⟩ : XDone)))
    (((Z13 c b1 b2 b3 b4).1), (Z13 c b1 b2 b3 b4).2.1, (Z13 c b1 b2 b3 b4).2.2.1, (Z13 c b1 b2 b3 b4).2.2.2, (aset b4 (tgtOf c) (⟨c, ((Z13 c b1 b2 b3 b4).1)⟩ : XDone)))) := by
   intro hp
   cases he : ((Z13 c b1 b2 b3 b4).1.err == (0 : Int)) with
   | true => exact .new hR hp _ (.inl rfl)
   | false => exact .new hR hp (errR (Z13 c b1 b2 b3 b4).1.err) (.inr ⟨by simpa using he, rfl⟩)
  cases hp : aget b4 (tgtOf c) with
  | none =>
   simp only [Option.isSome_none, Bool.not_false, cond_true, cond_false]
   by_cases hl : 256 ≤ b4.length
   · rw [decide_eq_true (by omega : (b4.length : Int) ≥ 256)]
     exact .full hR hp hl
   · rw [decide_eq_false (by omega : ¬ (b4.length : Int) ≥ 256)]
     exact last (by rw [hp]; nofun)
  | some p =>
   simp only [Option.isSome_some, Bool.not_true, cond_true, cond_false, Option.getD_some]
   by_cases h1 : c.num < p.c.num
   · rw [decide_eq_true h1]
     exact .stale hR p hp h1
   · rw [decide_eq_false h1]
     by_cases h2 : c.num = p.c.num
     · rw [beq_iff_eq.2 h2]
       by_cases h3 : p.c = c
       · rw [(cbeq_iff c p.c).2 h3]
         exact .again hR p hp h3
       · rw [cbeq_no c h3]
         exact .other hR p hp h2.symm h3
     · rw [beq_eq_false_iff_ne.2 h2]
       exact last (by rw [hp]; intro p' e; injection e with e; subst e; omega)
variable {c b1 b2 b3 b4}
theorem do_again : Zb c (Zb c b1 b2 b3 b4).2.1 (Zb c b1 b2 b3 b4).2.2.1 (Zb c b1 b2 b3 b4).2.2.2.1 (Zb c b1 b2 b3 b4).2.2.2.2 = Zb c b1 b2 b3 b4 := by
 have h0 := do_cases c b1 b2 b3 b4
 generalize hx : Zb c b1 b2 b3 b4 = x at h0
 cases h0 with
 | form h => exact hx
 | full h hn hl => exact hx
 | stale h p hp hl => exact hx
 | again h p hp hl => exact hx
 | other h p hp hl hc => exact hx
 | new h hp r hr =>
  show Zb c (Z13 c b1 b2 b3 b4).2.1 (Z13 c b1 b2 b3 b4).2.2.1 (Z13 c b1 b2 b3 b4).2.2.2 (aset b4 (tgtOf c) ⟨c, r⟩) = _
  have h1 := do_cases c (Z13 c b1 b2 b3 b4).2.1 (Z13 c b1 b2 b3 b4).2.2.1 (Z13 c b1 b2 b3 b4).2.2.2 (aset b4 (tgtOf c) ⟨c, r⟩)
  have ha : aget (aset b4 (tgtOf c) ⟨c, r⟩) (tgtOf c) = some ⟨c, r⟩ := by rw [aget_aset, if_pos rfl]
  generalize hy : Zb c (Z13 c b1 b2 b3 b4).2.1 (Z13 c b1 b2 b3 b4).2.2.1 (Z13 c b1 b2 b3 b4).2.2.2 (aset b4 (tgtOf c) ⟨c, r⟩) = y at h1
  cases h1 with
  | form h' => rw [h] at h'; cases h'
  | full h' hn hl => rw [ha] at hn; cases hn
  | stale h' p hp' hl => rw [ha] at hp'; injection hp' with e; subst e; exact absurd hl (Int.lt_irrefl _)
  | again h' p hp' hl => rw [ha] at hp'; injection hp' with e; subst e; rfl
  | other h' p hp' hl hc => rw [ha] at hp'; injection hp' with e; subst e; exact absurd rfl hc
  | new h' hp' r' hr' => exact absurd (hp' _ ha) (Int.lt_irrefl _)
theorem seen_eq : Z55 c.verb c.target b1 b2 b3 b4 = ((aget b4 (tgtOf c)).getD default).c.num := by
 unfold Z55
 rw [mget_tgt, of_tgt]
end
theorem play_sn {n0 n1 n2 : Int} (h0 : U8 n0) (h1 : U8 n1) (h2 : U8 n2) (l : List XDeed) : (Z3f (Z0 n0 n1 n2 l).2.1 (Z0 n0 n1 n2 l).2.2.1 (Z0 n0 n1 n2 l).2.2.2.1 (Z0 n0 n1 n2 l).2.2.2.2.1).length ≤ 1000 := by
 rw [Snaps_R (play_iv h0 h1 h2 l).1]
 exact iv_s (play_iv h0 h1 h2 l)
theorem play_dosn {n0 n1 n2 : Int} (h0 : U8 n0) (h1 : U8 n1) (h2 : U8 n2) (l : List XDeed) (c : XCall) : (Z3f (Zb c (Z0 n0 n1 n2 l).2.1 (Z0 n0 n1 n2 l).2.2.1 (Z0 n0 n1 n2 l).2.2.2.1 (Z0 n0 n1 n2 l).2.2.2.2.1).2.1 (Zb c (Z0 n0 n1 n2 l).2.1 (Z0 n0 n1 n2 l).2.2.1 (Z0 n0 n1 n2 l).2.2.2.1 (Z0 n0 n1 n2 l).2.2.2.2.1).2.2.1 (Zb c (Z0 n0 n1 n2 l).2.1 (Z0 n0 n1 n2 l).2.2.1 (Z0 n0 n1 n2 l).2.2.2.1 (Z0 n0 n1 n2 l).2.2.2.2.1).2.2.2.1 (Zb c (Z0 n0 n1 n2 l).2.1 (Z0 n0 n1 n2 l).2.2.1 (Z0 n0 n1 n2 l).2.2.2.1 (Z0 n0 n1 n2 l).2.2.2.2.1).2.2.2.2).length ≤ 1000 := by
 have h := (iv_do (play_iv h0 h1 h2 l) c).2
 rw [Snaps_R h.1]
 exact iv_s h
theorem play_donb {n0 n1 n2 : Int} (h0 : U8 n0) (h1 : U8 n1) (h2 : U8 n2) (l : List XDeed) (c : XCall) : ∀ x ∈ Z17 (Zb c (Z0 n0 n1 n2 l).2.1 (Z0 n0 n1 n2 l).2.2.1 (Z0 n0 n1 n2 l).2.2.2.1 (Z0 n0 n1 n2 l).2.2.2.2.1).2.1 (Zb c (Z0 n0 n1 n2 l).2.1 (Z0 n0 n1 n2 l).2.2.1 (Z0 n0 n1 n2 l).2.2.2.1 (Z0 n0 n1 n2 l).2.2.2.2.1).2.2.1 (Zb c (Z0 n0 n1 n2 l).2.1 (Z0 n0 n1 n2 l).2.2.1 (Z0 n0 n1 n2 l).2.2.2.1 (Z0 n0 n1 n2 l).2.2.2.2.1).2.2.2.1 (Zb c (Z0 n0 n1 n2 l).2.1 (Z0 n0 n1 n2 l).2.2.1 (Z0 n0 n1 n2 l).2.2.2.1 (Z0 n0 n1 n2 l).2.2.2.2.1).2.2.2.2, x.nodes.length ≤ 1000 := by
 have h := (iv_do (play_iv h0 h1 h2 l) c).2
 rw [Volumes_R h.1]
 exact iv_nb (h.mono (by omega))
theorem rFork_id (z : List XZone) (v : List XVol) (s : List XSnap) (q : List XDone) : Z1f z v s q = (z, v, s, q) := by
 unfold Z1f
 rw [rVolumes_id]
 rfl
theorem fork_iv {n0 n1 n2 : Int} (h0 : U8 n0) (h1 : U8 n1) (h2 : U8 n2) (l : List XDeed) : IV (60 + 0) (Z0 n0 n1 n2 l).2.1 (Z0 n0 n1 n2 l).2.2.1 (Z0 n0 n1 n2 l).2.2.2.1 (Z0 n0 n1 n2 l).2.2.2.2.1 (Z1f (Z0 n0 n1 n2 l).2.2.2.2.2.1 (Z0 n0 n1 n2 l).2.2.2.2.2.2.1 (Z0 n0 n1 n2 l).2.2.2.2.2.2.2.1 (Z0 n0 n1 n2 l).2.2.2.2.2.2.2.2).1 (Z1f (Z0 n0 n1 n2 l).2.2.2.2.2.1 (Z0 n0 n1 n2 l).2.2.2.2.2.2.1 (Z0 n0 n1 n2 l).2.2.2.2.2.2.2.1 (Z0 n0 n1 n2 l).2.2.2.2.2.2.2.2).2.1 (Z1f (Z0 n0 n1 n2 l).2.2.2.2.2.1 (Z0 n0 n1 n2 l).2.2.2.2.2.2.1 (Z0 n0 n1 n2 l).2.2.2.2.2.2.2.1 (Z0 n0 n1 n2 l).2.2.2.2.2.2.2.2).2.2.1 (Z1f (Z0 n0 n1 n2 l).2.2.2.2.2.1 (Z0 n0 n1 n2 l).2.2.2.2.2.2.1 (Z0 n0 n1 n2 l).2.2.2.2.2.2.2.1 (Z0 n0 n1 n2 l).2.2.2.2.2.2.2.2).2.2.2 := by
 rw [rFork_id]
 exact play_iv h0 h1 h2 l
theorem fork_test {l : List XDeed} {i : Nat} (h : cond (decide ((i : Int) < (l.length : Int))) (decide ((i : Int) < (20 : Int))) false = true) : i < l.length ∧ i < 20 := by
 simp only [Bool.cond_false_right, Bool.and_eq_true, decide_eq_true_eq] at h
 omega
end Go.Proofs.Ytpffbkbadnhmmaa
