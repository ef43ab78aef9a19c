/- The driver, plainly: making, growing, cutting: the maps do what the lists do. -/
import Derived.Test.YtkledlcmhbjadaaGreatDPLC
import Derived.Test.YtkledlcmhbjadaaGreatDDo
set_option linter.unusedVariables false
set_option linter.unusedSimpArgs false
set_option maxRecDepth 100000
namespace Go.Proofs.YtkledlcmhbjadaaGreat
open Go Go.Eng
structure RR (b1 : LA) (b2 : LB) (b3 : LC) (b4 : LD) (Z : LZ) (V : LV) (S : LS) (Q : LQ) : Prop where
 z : RZ b1 Z
 v : RV b2 V
 s : RS b3 S
 q : RD b4 Q
 sz : ∀ x ∈ V, 0 ≤ x.size ∧ x.size ≤ 1125899906842624
 zn : ∀ x ∈ V, ZHas Z x.zone
theorem zhas_set {z : LZ} {i : Nat} {x y : XZone} (hx : z[i]? = some x) (hy : y.name = x.name) {n : BA} (h : ZHas z n) : ZHas (z.set i y) n := by
 obtain ⟨w, hw, rfl⟩ := h
 have h1 : (w.name : BA) ∈ (z.set i y).map XZone.name := by rw [Z16d _ hx hy]; exact List.mem_map.2 ⟨w, hw, rfl⟩
 obtain ⟨w', h2, h3⟩ := List.mem_map.1 h1
 exact ⟨w', h2, h3⟩
section
variable {b1 : LA} {b2 : LB} {b3 : LC} {b4 : LD} {z : LZ} {v : LV} {s : LS} {q : LQ}
theorem Z106 (c : XCall) (z : LZ) (v : LV) (s : LS) (q : LQ) : ∀ (l : LV) (p : Bool) (a : LV), Z36 c z v s q l p a = insL XVol.name ⟨c.target, c.size, c.zone, ((s.getD ((Z24 c.source z v s q).toNat) default).tag), []⟩ l p a
 | [], _, _ => rfl
 | o :: r, p, a => by unfold Z36 insL; rw [Z106 c z v s q r, Z106 c z v s q r]
theorem Ze8 (c : XCall) (z : LZ) (v : LV) (s : LS) (q : LQ) : ∀ (l : LV) (p : Bool) (a : LV), Z31 c z v s q l p a = insL XVol.name ⟨c.target, c.size, c.zone, ((v.getD ((Z5 c.source z v s q).toNat) default).tag), []⟩ l p a
 | [], _, _ => rfl
 | o :: r, p, a => by unfold Z31 insL; rw [Ze8 c z v s q r, Ze8 c z v s q r]
theorem Ze7 (c : XCall) : ∀ (l : LV) (p : Bool) (a : LV), Z30 c l p a = insL XVol.name ⟨c.target, c.size, c.zone, (0 : Int), []⟩ l p a
 | [], _, _ => rfl
 | o :: r, p, a => by unfold Z30 insL; rw [Ze7 c r, Ze7 c r]
theorem Z1f3 (c : XCall) (z : LZ) (v : LV) (s : LS) (q : LQ) : ∀ (l : LS) (p : Bool) (a : LS), Z58 c z v s q l p a = insL XSnap.name ⟨c.target, ((v.getD ((Z5 c.source z v s q).toNat) default).size), ((v.getD ((Z5 c.source z v s q).toNat) default).tag)⟩ l p a
 | [], _, _ => rfl
 | o :: r, p, a => by unfold Z58 insL; rw [Z1f3 c z v s q r, Z1f3 c z v s q r]
theorem Z193 {α β : Type} (key : α → BA) (x : α) (l : List α) (A : List α → β) : cond (!(insL key x l false []).1) (A ((insL key x l false []).2 ++ [x])) (A (insL key x l false []).2) = A (insR key x l) := by
 have h := insL_spec key x l []
 rw [List.nil_append] at h
 rw [← h]
 cases (insL key x l false []).1 <;> rfl
theorem RR.made (h : RR b1 b2 b3 b4 z v s q) {c : XCall} {j : Nat} {y : XZone} (hy : z[j]? = some y) (hn : y.name = c.zone) (hnew : ∀ x ∈ v, x.name ≠ c.target) (hc : 0 ≤ c.size ∧ c.size ≤ 1125899906842624) (tag r : Int) :
  RR (aset b1 c.zone r) (aset b2 c.target ⟨c.size, c.zone, tag, []⟩) b3 b4 (z.set j ⟨y.name, r⟩) (insR XVol.name ⟨c.target, c.size, c.zone, tag, []⟩ v) s q := by
 refine ⟨?_, ?_, h.s, h.q, fun x hx => ?_, fun x hx => ?_⟩
 · have := h.z.set hy (y := ⟨y.name, r⟩) rfl
   rw [hn] at this ⊢
   exact this
 · exact h.v.ins (y := ⟨c.target, c.size, c.zone, tag, []⟩) (e := ⟨c.size, c.zone, tag, []⟩) hnew ⟨rfl, rfl, rfl, RN.empty⟩
 · rcases (Zab _ _ x v).1 hx with rfl | hx
   · exact hc
   · exact h.sz x hx
 · refine zhas_set (y := ⟨y.name, r⟩) hy rfl ?_
   rcases (Zab _ _ x v).1 hx with rfl | hx
   · exact ⟨y, List.mem_of_getElem? hy, hn⟩
   · exact h.zn x hx
theorem source_R (h : RR b1 b2 b3 b4 z v s q) (n : BA) :
  Z3f n b1 b2 b3 b4 = cond (decide (n = (⟨#[]⟩ : BA))) (⟨0, 0⟩, 0) (cond (decide (Z24 n z v s q ≥ (0 : Int))) (⟨(s.getD ((Z24 n z v s q).toNat) default).size, (s.getD ((Z24 n z v s q).toNat) default).tag⟩, 0)
   (cond (decide (Z5 n z v s q ≥ (0 : Int))) (⟨(v.getD ((Z5 n z v s q).toNat) default).size, (v.getD ((Z5 n z v s q).toNat) default).tag⟩, 0) (⟨0, 0⟩, 5))) := by
 unfold Z3f
 simp only [Zcd, Ze4]
 cases decide (n = (⟨#[]⟩ : BA)) with
 | true => rfl
 | false =>
  simp only [cond_false]
  rcases snap_at z v s q n with ⟨e, hn⟩ | ⟨i, x, e, hi, hx, hd, hm, hnm⟩
  · rw [h.s.none hn, e]
    simp only [Option.isSome_none, cond_false, show decide ((-1 : Int) ≥ 0) = false from rfl]
    rcases Z115 z v s q n with ⟨e, hn⟩ | ⟨i, x, e, hi, hx, hd, hm, hnm⟩
    · rw [h.v.none hn, e]
      rfl
    · obtain ⟨en, he, hr⟩ := h.v.bwd x hm
      rw [hnm] at he
      rw [he, e, decide_eq_true (by omega : (i : Int) ≥ 0), Int.toNat_natCast, hd]
      simp only [Option.isSome_some, Option.getD_some, cond_true, hr.size, hr.tag]
  · have he := h.s.bwd x hm
    rw [hnm] at he
    rw [he, e, decide_eq_true (by omega : (i : Int) ≥ 0), Int.toNat_natCast, hd]
    rfl
theorem create_R (h : RR b1 b2 b3 b4 z v s q) (c : XCall) (hc : 0 ≤ c.size ∧ c.size ≤ 1125899906842624) :
  (Z26 c b1 b2 b3 b4).1 = (Zc c z v s q).1 ∧
  RR (Z26 c b1 b2 b3 b4).2.1 (Z26 c b1 b2 b3 b4).2.2 b3 b4 (Zc c z v s q).2.1 (Zc c z v s q).2.2.1 (Zc c z v s q).2.2.2.1 (Zc c z v s q).2.2.2.2 := by
 have hl := h.v.len
 unfold Z26 Zc
 simp only [source_R h, Z106, Ze8, Ze7]
 simp only [Zcd, Ze4, Z13b, vset_str]
 rcases Z115 z v s q c.target with ⟨e, hn⟩ | ⟨i, x, e, hi, hx, hd, hm, hnm⟩
 · rw [h.v.none hn, e]
   simp only [Option.isSome_none, cond_false, show decide ((-1 : Int) ≥ 0) = false from rfl]
   rcases zone_at z v s q c.zone with ⟨e2, hn2⟩ | ⟨j, y, e2, hj, hy, hd2, hm2, hnm2⟩
   · rw [h.z.none hn2, e2]
     exact ⟨rfl, h⟩
   · have hyr := h.z.bwd y hm2
     rw [hnm2] at hyr
     rw [hyr, e2, decide_eq_false (by omega : ¬ (j : Int) < 0), Int.toNat_natCast, hd2, hl]
     simp only [Option.isSome_some, Option.getD_some, Bool.not_true, cond_false]
     have fin : ∀ (tag : Int), _ := fun tag => h.made hy hnm2 hn hc tag (IntKind.i64.wrap (y.room - c.size))
     cases decide (c.source = (⟨#[]⟩ : BA)) with
     | true =>
      simp only [cond_true, Bool.not_true, cond_false, beq_self_eq_true]
      cases decide ((0 : Int) > c.size) with
      | true => exact ⟨rfl, h⟩
      | false =>
       simp only [cond_false]
       cases decide ((v.length : Int) ≥ 64) with
       | true => exact ⟨rfl, h⟩
       | false =>
        simp only [cond_false]
        cases decide (y.room < c.size) with
        | true => exact ⟨rfl, h⟩
        | false =>
         simp only [cond_false]
         rw [Z193 XVol.name ⟨c.target, c.size, c.zone, (0 : Int), []⟩ v (fun l => ((⟨(0 : Int), c.size, c.zone, (0 : Int)⟩ : XRes), (z.set j (⟨y.name, (IntKind.i64.wrap (y.room - c.size))⟩ : XZone)), l, s, q))]
         exact ⟨rfl, fin 0⟩
     | false =>
      simp only [cond_false, Bool.not_false, cond_true]
      cases decide (Z24 c.source z v s q ≥ (0 : Int)) with
      | true =>
       simp only [cond_true, beq_self_eq_true, Bool.not_true, cond_false]
       generalize s.getD ((Z24 c.source z v s q).toNat) default = sx
       cases decide (sx.size > c.size) with
       | true => exact ⟨rfl, h⟩
       | false =>
        simp only [cond_false]
        cases decide ((v.length : Int) ≥ 64) with
        | true => exact ⟨rfl, h⟩
        | false =>
         simp only [cond_false]
         cases decide (y.room < c.size) with
         | true => exact ⟨rfl, h⟩
         | false =>
          simp only [cond_false]
          rw [Z193 XVol.name ⟨c.target, c.size, c.zone, sx.tag, []⟩ v (fun l => ((⟨(0 : Int), c.size, c.zone, sx.tag⟩ : XRes), (z.set j (⟨y.name, (IntKind.i64.wrap (y.room - c.size))⟩ : XZone)), l, s, q))]
          exact ⟨rfl, fin sx.tag⟩
      | false =>
       simp only [cond_false]
       cases decide (Z5 c.source z v s q ≥ (0 : Int)) with
       | true =>
        simp only [cond_true, beq_self_eq_true, Bool.not_true, cond_false]
        generalize v.getD ((Z5 c.source z v s q).toNat) default = sx
        cases decide (sx.size > c.size) with
        | true => exact ⟨rfl, h⟩
        | false =>
         simp only [cond_false]
         cases decide ((v.length : Int) ≥ 64) with
         | true => exact ⟨rfl, h⟩
         | false =>
          simp only [cond_false]
          cases decide (y.room < c.size) with
          | true => exact ⟨rfl, h⟩
          | false =>
           simp only [cond_false]
           rw [Z193 XVol.name ⟨c.target, c.size, c.zone, sx.tag, []⟩ v (fun l => ((⟨(0 : Int), c.size, c.zone, sx.tag⟩ : XRes), (z.set j (⟨y.name, (IntKind.i64.wrap (y.room - c.size))⟩ : XZone)), l, s, q))]
           exact ⟨rfl, fin sx.tag⟩
       | false => exact ⟨rfl, h⟩
 · obtain ⟨en, he, hr⟩ := h.v.bwd x hm
   rw [hnm] at he
   rw [he, e, decide_eq_true (by omega : (i : Int) ≥ 0), Int.toNat_natCast, hd]
   simp only [Option.isSome_some, Option.getD_some, cond_true, hr.size, hr.zone, hr.tag]
   cases decide (x.size < c.size) with
   | true => exact ⟨rfl, h⟩
   | false => exact ⟨rfl, h⟩
theorem wrap_sub {a b : Int} (ha : 0 ≤ a ∧ a ≤ 1125899906842624) (hb : 0 ≤ b ∧ b ≤ 1125899906842624) : IntKind.i64.wrap (a - b) = a - b := by rw [IntKind.wrap_i64]; omega
theorem expand_R (h : RR b1 b2 b3 b4 z v s q) (c : XCall) (hc : 0 ≤ c.size ∧ c.size ≤ 1125899906842624) :
  (Z2b c b1 b2 b3 b4).1 = (Z20 (Z5 c.target z v s q) c z v s q).1 ∧
  RR (Z2b c b1 b2 b3 b4).2.1 (Z2b c b1 b2 b3 b4).2.2 b3 b4 (Z20 (Z5 c.target z v s q) c z v s q).2.1 (Z20 (Z5 c.target z v s q) c z v s q).2.2 s q := by
 unfold Z2b Z20
 simp only [Zcd, Ze4, Z13b, vset_str]
 rcases Z115 z v s q c.target with ⟨e, hn⟩ | ⟨i, x, e, hi, hx, hd, hm, hnm⟩
 · rw [h.v.none hn, e]
   exact ⟨rfl, h⟩
 · obtain ⟨en, he, hr⟩ := h.v.bwd x hm
   rw [hnm] at he
   rw [he, e, decide_eq_false (by omega : ¬ (i : Int) < 0), Int.toNat_natCast, hd]
   simp only [Option.isSome_some, Option.getD_some, Bool.not_true, cond_false, hr.size, hr.zone, hr.tag]
   have hxs := h.sz x hm
   rw [wrap_sub hc hxs]
   by_cases hge : x.size ≥ c.size
   · rw [decide_eq_true hge, decide_eq_false (by omega : ¬ c.size - x.size > 0)]
     exact ⟨rfl, h⟩
   · rw [decide_eq_false hge, decide_eq_true (by omega : c.size - x.size > 0)]
     simp only [cond_true, cond_false]
     rcases zone_at z v s q x.zone with ⟨e2, hn2⟩ | ⟨j, y, e2, hj, hy, hd2, hm2, hnm2⟩
     · obtain ⟨w, hw, hwn⟩ := h.zn x hm
       exact absurd hwn (hn2 w hw)
     · have hyr := h.z.bwd y hm2
       rw [hnm2] at hyr
       rw [hyr, e2, Int.toNat_natCast, hd2]
       simp only [Option.getD_some]
       cases decide (y.room < c.size - x.size) with
       | true => exact ⟨rfl, h⟩
       | false =>
        simp only [cond_false]
        refine ⟨trivial, ?_, ?_, h.s, h.q, fun w hw => ?_, fun w hw => ?_⟩
        · have := h.z.set hy (y := ⟨y.name, IntKind.i64.wrap (y.room - (c.size - x.size))⟩) rfl
          rw [hnm2] at this ⊢
          exact this
        · have := h.v.set hx (y := ⟨x.name, c.size, x.zone, x.tag, x.nodes⟩) (e := ⟨c.size, x.zone, x.tag, en.nodes⟩) rfl ⟨rfl, rfl, rfl, hr.nodes⟩
          rw [hnm] at this ⊢
          exact this
        · rcases (Z67 _ h.v.rise.nodup hx w).1 hw with rfl | ⟨hw, _⟩
          · exact hc
          · exact h.sz w hw
        · refine zhas_set (y := ⟨y.name, IntKind.i64.wrap (y.room - (c.size - x.size))⟩) hy rfl ?_
          rcases (Z67 _ h.v.rise.nodup hx w).1 hw with rfl | ⟨hw, _⟩
          · exact h.zn x hm
          · exact h.zn w hw
theorem cut_R (h : RR b1 b2 b3 b4 z v s q) (c : XCall) :
  (Z5c c b1 b2 b3 b4).1 = (Z33 c z v s q).1 ∧
  RR b1 b2 (Z5c c b1 b2 b3 b4).2 b4 (Z33 c z v s q).2.1 (Z33 c z v s q).2.2.1 (Z33 c z v s q).2.2.2.1 (Z33 c z v s q).2.2.2.2 := by
 have hl := h.s.len
 unfold Z5c Z33
 simp only [Z1f3]
 simp only [Zcd, Ze4, Z13b]
 rcases snap_at z v s q c.target with ⟨e, hn⟩ | ⟨i, x, e, hi, hx, hd, hm, hnm⟩
 · rw [h.s.none hn, e]
   simp only [Option.isSome_none, Bool.not_false, cond_true, cond_false, show decide ((-1 : Int) ≥ 0) = false from rfl]
   rcases Z115 z v s q c.source with ⟨e2, hn2⟩ | ⟨i, x, e2, hi, hx, hd, hm, hnm⟩
   · rw [h.v.none hn2, e2]
     exact ⟨rfl, h⟩
   · obtain ⟨en, he, hr⟩ := h.v.bwd x hm
     rw [hnm] at he
     rw [he, e2, decide_eq_false (by omega : ¬ (i : Int) < 0), Int.toNat_natCast, hd, hl]
     simp only [Option.isSome_some, Option.getD_some, Bool.not_true, cond_false, hr.size, hr.tag]
     cases decide ((s.length : Int) ≥ 64) with
     | true => exact ⟨rfl, h⟩
     | false =>
      simp only [cond_false]
      rw [Z193 XSnap.name ⟨c.target, x.size, x.tag⟩ s (fun l => ((⟨(0 : Int), x.size, (⟨#[]⟩ : BA), x.tag⟩ : XRes), z, v, l, q))]
      exact ⟨rfl, h.z, h.v, h.s.ins (y := ⟨c.target, x.size, x.tag⟩) hn, h.q, h.sz, h.zn⟩
 · have he := h.s.bwd x hm
   rw [hnm] at he
   rw [he, e, decide_eq_true (by omega : (i : Int) ≥ 0), Int.toNat_natCast, hd]
   exact ⟨rfl, h⟩
end
end Go.Proofs.YtkledlcmhbjadaaGreat
