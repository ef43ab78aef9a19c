/- The engine, part 18: what is known of a function, out of its theorem, for arguments and objects of given shapes. -/
import Derived.Test.YtnfmnipckcidlaaDoorE14
set_option linter.unusedVariables false
set_option linter.unusedSimpArgs false
namespace Go.Eng

/-- The shape of a cell. -/
inductive CP where
  | int (k : IntKind)
  | bool
  | str
  | coll (k : Kind)
  | ptr (j off : Nat)
  | vec (j : Nat)
  | map (j : Nat)
  | yld (j : Nat)
  /-- what nobody looks at -/
  | any
  | nilp
  | nilf
  | nili
  | nilm
  | nils
  | fn (f : FuncId)
abbrev CP.Ty : CP → Type
  | .int _ => Int
  | .bool => Bool
  | .str => ByteArray
  | .coll k => List k.Ty
  | _ => Unit
def CP.enc : (p : CP) → p.Ty → AV
  | .int k, n => .int k n
  | .bool, b => .bool b
  | .str, s => .str s
  | .coll k, l => .coll ⟨k, l⟩
  | .ptr j off, _ => .ptr j off
  | .vec j, _ => .vec j
  | .map j, _ => .map j
  | .yld j, _ => .yld j
  | .any, _ => .unk
  | .nilp, _ => .nilp
  | .nilf, _ => .nilf
  | .nili, _ => .nili
  | .nilm, _ => .nilm
  | .nils, _ => .nils
  | .fn f, _ => .fn f []
def CP.dec (ids : List Nat) : (p : CP) → AV → Option p.Ty
  | .int k, x => match x with | .int k' n => if k' = k then some n else none | _ => none
  | .bool, x => match x with | .bool b => some b | _ => none
  | .str, x => match x with | .str s => some s | _ => none
  | .coll k, x => match x with | .coll c => if h : c.k = k then some (h ▸ c.xs) else none | _ => none
  | .ptr j off, x => match x with | .ptr id off' => if ids[j]? = some id ∧ off' = off then some () else none | _ => none
  | .vec j, x => match x with | .vec id => if ids[j]? = some id then some () else none | _ => none
  | .map j, x => match x with | .map id => if ids[j]? = some id then some () else none | _ => none
  | .yld j, x => match x with | .yld id => if ids[j]? = some id then some () else none | _ => none
  | .any, x => match x with | .unk => some () | _ => none
  | .nilp, x => match x with | .nilp => some () | _ => none
  | .nilf, x => match x with | .nilf => some () | _ => none
  | .nili, x => match x with | .nili => some () | _ => none
  | .nilm, x => match x with | .nilm => some () | _ => none
  | .nils, x => match x with | .nils => some () | _ => none
  | .fn f, x => match x with | .fn g cap => if g = f ∧ cap.isEmpty then some () else none | _ => none
def CP.ids (p : CP) (x : AV) (acc : List Nat) : List Nat :=
  match p, x with
  | .ptr j _, .ptr id _ => if acc.length = j then acc ++ [id] else acc
  | .vec j, .vec id => if acc.length = j then acc ++ [id] else acc
  | .map j, .map id => if acc.length = j then acc ++ [id] else acc
  | .yld j, .yld id => if acc.length = j then acc ++ [id] else acc
  | _, _ => acc
theorem sig_at {ids : List Nat} {nid j id : Nat} (h : ids[j]? = some id) : sig ids nid j = id := by
  obtain ⟨hj, h⟩ := List.getElem?_eq_some_iff.1 h
  simp [sig, hj, List.getD_eq_getElem?_getD, h]
theorem CP.dec_eq {ids : List Nat} (nid : Nat) (p : CP) {x : AV} {y : p.Ty} (h : p.dec ids x = some y) : x = ren (sig ids nid) (p.enc y) := by
  cases p with
  | int k =>
    simp only [CP.dec] at h
    split at h
    · split at h
      · rename_i hk; injection h with h; subst h; subst hk; simp [CP.enc, ren]
      · cases h
    · cases h
  | bool => simp only [CP.dec] at h; split at h <;> first | (injection h with h; subst h; simp [CP.enc, ren]) | cases h
  | str => simp only [CP.dec] at h; split at h <;> first | (injection h with h; subst h; simp [CP.enc, ren]) | cases h
  | coll k =>
    simp only [CP.dec] at h
    split at h
    · rename_i c
      split at h
      · rename_i hk
        injection h with h
        obtain ⟨k', l⟩ := c
        simp only at hk
        subst hk
        subst h
        simp [CP.enc, ren]
      · cases h
    · cases h
  | ptr j off =>
    simp only [CP.dec] at h
    split at h
    · split at h
      · rename_i hk; simp [CP.enc, ren, sig_at hk.1, hk.2]
      · cases h
    · cases h
  | vec j =>
    simp only [CP.dec] at h
    split at h
    · split at h
      · rename_i hk; simp [CP.enc, ren, sig_at hk]
      · cases h
    · cases h
  | map j =>
    simp only [CP.dec] at h
    split at h
    · split at h
      · rename_i hk; simp [CP.enc, ren, sig_at hk]
      · cases h
    · cases h
  | yld j =>
    simp only [CP.dec] at h
    split at h
    · split at h
      · rename_i hk; simp [CP.enc, ren, sig_at hk]
      · cases h
    · cases h
  | fn f =>
    simp only [CP.dec] at h
    split at h
    · split at h
      · rename_i hk; obtain ⟨rfl, hk⟩ := hk; simp only [List.isEmpty_iff] at hk; subst hk; simp [CP.enc, ren, renL]
      · cases h
    · cases h
  | _ => simp only [CP.dec] at h; split at h <;> first | (cases h; done) | simp [CP.enc, ren]
abbrev CPL.Ty : List CP → Type
  | [] => Unit
  | p :: ps => p.Ty × CPL.Ty ps
def CPL.enc : (ps : List CP) → CPL.Ty ps → List AV
  | [], _ => []
  | p :: ps, t => p.enc t.1 :: CPL.enc ps t.2
def CPL.dec (ids : List Nat) : (ps : List CP) → List AV → Option (CPL.Ty ps)
  | [], l => match l with | [] => some () | _ => none
  | p :: ps, l => match l with
    | x :: xs => match p.dec ids x, CPL.dec ids ps xs with
      | some y, some ys => some (y, ys)
      | _, _ => none
    | [] => none
def CPL.ids : List CP → List AV → List Nat → List Nat
  | p :: ps, x :: xs, acc => CPL.ids ps xs (p.ids x acc)
  | _, _, acc => acc
theorem CPL.dec_eq {ids : List Nat} (nid : Nat) : ∀ (ps : List CP) {l : List AV} {t : CPL.Ty ps}, CPL.dec ids ps l = some t → l = renL (sig ids nid) (CPL.enc ps t)
  | [], l, t, h => by
    simp only [CPL.dec] at h
    split at h
    · rfl
    · cases h
  | p :: ps, l, t, h => by
    simp only [CPL.dec] at h
    split at h
    · split at h
      · rename_i y ys hy hys
        injection h with h
        subst h
        simp only [CPL.enc, renL]
        rw [← CP.dec_eq nid p hy, ← CPL.dec_eq nid ps hys]
      · cases h
    · cases h
theorem renL_sc {σ : Nat → Nat} : ∀ {l : List AV}, (∀ x ∈ l, x.isSc = true ∨ x.isColl = true) → renL σ l = l
  | [], _ => rfl
  | x :: l, h => by
    simp only [renL]
    rw [renL_sc fun y hy => h y (List.mem_cons_of_mem _ hy)]
    have := h x List.mem_cons_self
    cases x <;> simp [AV.isSc, AV.isColl] at this <;> simp [ren]
/-- Of a kind without slices inside. -/
theorem Kind.dec_flat {k : Kind} (hf : k.flat = true) {l : List AV} {y : k.Ty} (h : k.dec l = some y) : l = k.enc y := by
  have hl := k.dec_like h
  have key : ∀ {l m : List AV}, likeL l m → (∀ z ∈ m, z.isColl = false) → l = m := by
    intro l
    induction l with
    | nil => intro m hl _; cases m <;> simp [likeL] at hl ⊢
    | cons x l ih =>
      intro m hl hm
      cases m with
      | nil => simp [likeL] at hl
      | cons z m =>
        simp only [likeL] at hl
        rw [ih hl.2 fun z hz => hm z (List.mem_cons_of_mem _ hz)]
        rcases hl.1 with rfl | ⟨rfl, k, rfl⟩
        · rfl
        · have := hm _ List.mem_cons_self; simp [AV.isColl] at this
  refine key hl fun z hz => ?_
  obtain ⟨m, hm, rfl⟩ := List.mem_iff_getElem.1 hz
  have hd : k.depth = 0 := by cases k <;> simp [Kind.flat] at hf <;> rfl
  rcases k.enc_cell y m _ (List.getElem?_eq_getElem hm) with ⟨c, _, hlt⟩ | hs
  · omega
  · generalize (k.enc y)[m] = z at hs
    cases z <;> simp [AV.isSc] at hs <;> rfl
theorem Kind.enc_ren {k : Kind} {σ : Nat → Nat} (x : k.Ty) : renL σ (k.enc x) = k.enc x := by
  refine renL_sc fun z hz => ?_
  obtain ⟨m, hm, rfl⟩ := List.mem_iff_getElem.1 hz
  rcases k.enc_cell x m _ (List.getElem?_eq_getElem hm) with ⟨c, hc, _⟩ | hs
  · exact .inr (by rw [hc]; rfl)
  · exact .inl hs
def decAct (l : List AV) : Option XAct := match l.take 1, decObj ((l.drop 1).take 20), decCall (l.drop 21) with
  | [.int .u8 a], some o, some c => some ⟨a, o, c⟩
  | _, _, _ => none
theorem decAct_eq {l : List AV} {x : XAct} (h : decAct l = some x) : l = encAct x := by
  unfold decAct at h
  split at h
  · rename_i a o c h1 h2 h3
    injection h with h
    subst h
    have e : l = l.take 1 ++ ((l.drop 1).take 20 ++ l.drop 21) := by
      have e2 : l.drop 1 = (l.drop 1).take 20 ++ l.drop 21 := by
        have := (List.take_append_drop 20 (l.drop 1)).symm
        rwa [List.drop_drop] at this
      rw [← e2, List.take_append_drop]
    rw [e, h1, decObj_eq h2, decCall_eq h3]
    rfl
  · cases h

/-- The shape of an argument. -/
inductive TP where
  | c (p : CP)
  | st (k : Kind)
  | act
  | res
  | agg (ps : List CP)
  | fn (f : FuncId) (ps : List CP)
  /-- a number that is known -/
  | lit (k : IntKind) (n : Int)
abbrev TP.Ty : TP → Type
  | .c p => p.Ty
  | .st k => k.Ty
  | .act => XAct
  | .res => XRes
  | .agg ps => CPL.Ty ps
  | .fn _ ps => CPL.Ty ps
  | .lit _ _ => Unit
def TP.enc : (p : TP) → p.Ty → AV
  | .c p, x => p.enc x
  | .st k, x => .agg (k.enc x)
  | .act, x => .agg (encAct x)
  | .res, x => .agg (encRes x)
  | .agg ps, x => .agg (CPL.enc ps x)
  | .fn f ps, x => .fn f (CPL.enc ps x)
  | .lit k n, _ => .int k n
def TP.dec (ids : List Nat) : (p : TP) → AV → Option p.Ty
  | .c p, x => p.dec ids x
  | .st k, x => match x with | .agg l => if k.flat then k.dec l else none | _ => none
  | .act, x => match x with | .agg l => decAct l | _ => none
  | .res, x => match x with | .agg l => decRes l | _ => none
  | .agg ps, x => match x with | .agg l => CPL.dec ids ps l | _ => none
  | .fn f ps, x => match x with | .fn g l => if g = f then CPL.dec ids ps l else none | _ => none
  | .lit k n, x => match x with | .int k' n' => if k' = k ∧ n' = n then some () else none | _ => none
def TP.ids : TP → AV → List Nat → List Nat
  | .c p, x, acc => p.ids x acc
  | .agg ps, .agg l, acc => CPL.ids ps l acc
  | .fn _ ps, .fn _ l, acc => CPL.ids ps l acc
  | _, _, acc => acc
theorem TP.dec_eq {ids : List Nat} (nid : Nat) (p : TP) {x : AV} {y : p.Ty} (h : p.dec ids x = some y) : x = ren (sig ids nid) (p.enc y) := by
  cases p <;> simp only [TP.dec] at h
  case c p => exact CP.dec_eq nid p h
  case st k =>
    split at h <;> try cases h
    split at h <;> try cases h
    rename_i hf
    simp only [TP.enc, ren, Kind.enc_ren]
    rw [Kind.dec_flat hf h]
  case act =>
    split at h <;> try cases h
    rw [decAct_eq h]
    simp only [TP.enc, ren]
    rw [renL_sc]
    simp [encAct, AV.isSc]
  case res =>
    split at h <;> try cases h
    rw [decRes_eq h]
    simp only [TP.enc, ren]
    rw [renL_sc]
    simp [encRes, AV.isSc]
  case agg ps =>
    split at h <;> try cases h
    simp only [TP.enc, ren]
    rw [← CPL.dec_eq nid ps h]
  case fn f ps =>
    split at h <;> try cases h
    split at h <;> try cases h
    rename_i hf
    subst hf
    simp only [TP.enc, ren]
    rw [← CPL.dec_eq nid ps h]
  case lit k n =>
    split at h <;> try cases h
    split at h <;> try cases h
    rename_i hk
    obtain ⟨rfl, rfl⟩ := hk
    simp [TP.enc, ren]
abbrev TPL.Ty : List TP → Type
  | [] => Unit
  | p :: ps => p.Ty × TPL.Ty ps
def TPL.enc : (ps : List TP) → TPL.Ty ps → List AV
  | [], _ => []
  | p :: ps, t => p.enc t.1 :: TPL.enc ps t.2
def TPL.dec (ids : List Nat) : (ps : List TP) → List AV → Option (TPL.Ty ps)
  | [], l => match l with | [] => some () | _ => none
  | p :: ps, l => match l with
    | x :: xs => match p.dec ids x, TPL.dec ids ps xs with
      | some y, some ys => some (y, ys)
      | _, _ => none
    | [] => none
def TPL.ids : List TP → List AV → List Nat → List Nat
  | p :: ps, x :: xs, acc => TPL.ids ps xs (p.ids x acc)
  | _, _, acc => acc
theorem TPL.dec_eq {ids : List Nat} (nid : Nat) : ∀ (ps : List TP) {l : List AV} {t : TPL.Ty ps}, TPL.dec ids ps l = some t → l = renL (sig ids nid) (TPL.enc ps t)
  | [], l, t, h => by
    simp only [TPL.dec] at h
    split at h
    · rfl
    · cases h
  | p :: ps, l, t, h => by
    simp only [TPL.dec] at h
    split at h
    · split at h
      · rename_i y ys hy hys
        injection h with h
        subst h
        simp only [TPL.enc, renL]
        rw [← TP.dec_eq nid p hy, ← TPL.dec_eq nid ps hys]
      · cases h
    · cases h
/-- The shape of an object. -/
inductive HP where
  | cells (t : TypeId) (ps : List CP)
  | st (t : TypeId) (k : Kind)
  | act (t : TypeId)
  | res (t : TypeId)
  | vec (f : Bool) (k : Kind)
  | map (k v : Kind)
  | loop (site : Nat) (ps : List CP)
abbrev HP.Ty : HP → Type
  | .cells _ ps => CPL.Ty ps
  | .st _ k => k.Ty
  | .act _ => XAct
  | .res _ => XRes
  | .vec _ k => List k.Ty
  | .map k v => List (k.Ty × v.Ty)
  | .loop _ ps => CPL.Ty ps
def HP.enc : (p : HP) → p.Ty → AObj
  | .cells t ps, x => .cells t (CPL.enc ps x)
  | .st t k, x => .cells t (k.enc x)
  | .act t, x => .cells t (encAct x)
  | .res t, x => .cells t (encRes x)
  | .vec f k, l => .vec f ⟨k, l⟩
  | .map k v, l => .map ⟨k, v, l⟩
  | .loop n ps, x => .loop n (CPL.enc ps x) none
def HP.dec (ids : List Nat) : (p : HP) → AObj → Option p.Ty
  | .cells t ps, o => match o with | .cells t' l => if t' = t then CPL.dec ids ps l else none | _ => none
  | .st t k, o => match o with | .cells t' l => if t' = t ∧ k.flat then k.dec l else none | _ => none
  | .act t, o => match o with | .cells t' l => if t' = t then decAct l else none | _ => none
  | .res t, o => match o with | .cells t' l => if t' = t then decRes l else none | _ => none
  | .vec f k, o => match o with | .vec f' c => if h : c.k = k then (if f' = f then some (h ▸ c.xs) else none) else none | _ => none
  | .map k v, o => match o with | .map m => if h : m.k = k ∧ m.v = v then some (h.1 ▸ h.2 ▸ m.es) else none | _ => none
  | .loop n ps, o => match o with | .loop m l none => if m = n then CPL.dec ids ps l else none | _ => none
def HP.ids : HP → AObj → List Nat → List Nat
  | .cells _ ps, .cells _ l, acc => CPL.ids ps l acc
  | .loop _ ps, .loop _ l _, acc => CPL.ids ps l acc
  | _, _, acc => acc
theorem HP.dec_eq {ids : List Nat} (nid : Nat) (p : HP) {x : AObj} {y : p.Ty} (h : p.dec ids x = some y) : x = renO (sig ids nid) (p.enc y) ∧ x ≠ .dead := by
  cases p <;> simp only [HP.dec] at h
  case cells t ps =>
    split at h <;> try cases h
    split at h <;> try cases h
    rename_i ht
    subst ht
    simp only [HP.enc, renO]
    rw [← CPL.dec_eq nid ps h]
    exact ⟨rfl, nofun⟩
  case st t k =>
    split at h <;> try cases h
    split at h <;> try cases h
    rename_i hf
    obtain ⟨rfl, hf⟩ := hf
    simp only [HP.enc, renO, Kind.enc_ren]
    rw [Kind.dec_flat hf h]
    exact ⟨rfl, nofun⟩
  case act t =>
    split at h <;> try cases h
    split at h <;> try cases h
    rename_i ht
    subst ht
    rw [decAct_eq h]
    simp only [HP.enc, renO]
    rw [renL_sc (by simp [encAct, AV.isSc])]
    exact ⟨rfl, nofun⟩
  case res t =>
    split at h <;> try cases h
    split at h <;> try cases h
    rename_i ht
    subst ht
    rw [decRes_eq h]
    simp only [HP.enc, renO]
    rw [renL_sc (by simp [encRes, AV.isSc])]
    exact ⟨rfl, nofun⟩
  case vec f k =>
    split at h <;> try cases h
    split at h <;> try cases h
    rename_i c hk
    split at h <;> try cases h
    rename_i hf
    subst hf
    obtain ⟨k', l⟩ := c
    simp only at hk
    subst hk
    exact ⟨rfl, nofun⟩
  case map k v =>
    split at h <;> try cases h
    split at h <;> try cases h
    rename_i m hk
    obtain ⟨k', v', es⟩ := m
    simp only at hk
    obtain ⟨rfl, rfl⟩ := hk
    exact ⟨rfl, nofun⟩
  case loop n ps =>
    split at h <;> try cases h
    split at h <;> try cases h
    rename_i hn
    subst hn
    simp only [HP.enc, renO]
    rw [← CPL.dec_eq nid ps h]
    exact ⟨rfl, nofun⟩
abbrev HPL.Ty : List HP → Type
  | [] => Unit
  | p :: ps => p.Ty × HPL.Ty ps
def HPL.enc : (ps : List HP) → HPL.Ty ps → List AObj
  | [], _ => []
  | p :: ps, t => p.enc t.1 :: HPL.enc ps t.2
def HPL.dec (ids : List Nat) (h : List AObj) : (ps : List HP) → List Nat → Option (HPL.Ty ps)
  | [], l => match l with | [] => some () | _ => none
  | p :: ps, l => match l with
    | i :: is => match p.dec ids (hget h i), HPL.dec ids h ps is with
      | some y, some ys => some (y, ys)
      | _, _ => none
    | [] => none
/-- The numbers of the objects, in the order in which they are met. -/
def HPL.ids (h : List AObj) : List HP → Nat → List Nat → List Nat
  | p :: ps, j, acc => HPL.ids h ps (j + 1) (match acc[j]? with | some i => p.ids (hget h i) acc | none => acc)
  | [], _, acc => acc
theorem HPL.dec_eq {ids : List Nat} {h : List AObj} (nid : Nat) : ∀ (ps : List HP) {l : List Nat} {t : HPL.Ty ps}, HPL.dec ids h ps l = some t → (HPL.enc ps t).length = l.length ∧ ∀ (k i : Nat), l[k]? = some i → ∃ o : AObj, (HPL.enc ps t)[k]? = some o ∧ hget h i = renO (sig ids nid) o ∧ hget h i ≠ .dead
  | [], l, t, hd => by
    simp only [HPL.dec] at hd
    split at hd
    · exact ⟨rfl, fun k i h => by simp at h⟩
    · cases hd
  | p :: ps, l, t, hd => by
    simp only [HPL.dec] at hd
    split at hd
    · split at hd
      · rename_i y ys hy hys
        injection hd with hd
        subst hd
        obtain ⟨h1, h2⟩ := HPL.dec_eq nid ps hys
        refine ⟨by simp [HPL.enc, h1], fun k i hk => ?_⟩
        cases k with
        | zero =>
          simp at hk; subst hk
          exact ⟨p.enc y, rfl, HP.dec_eq nid p hy⟩
        | succ k => simpa [HPL.enc] using h2 k i (by simpa using hk)
      · cases hd
    · cases hd

/-- The objects that a call is given. -/
def meet (tps : List TP) (hps : List HP) (args : List AV) (h : List AObj) : List Nat := HPL.ids h hps 0 (TPL.ids tps args [])
def factK (tps : List TP) (hps : List HP) (keep : Bool) (res : TPL.Ty tps → HPL.Ty hps → AV) (outs : TPL.Ty tps → HPL.Ty hps → List AObj) (pre : TPL.Ty tps → HPL.Ty hps → List Prop) (args : List AV) (h : List AObj) (nid : Nat) : Option Out :=
  let ids := meet tps hps args h
  if okIds ids nid then match TPL.dec ids tps args, HPL.dec ids h hps ids with
    | some t, some u => some (ren (sig ids nid) (res t u), if keep then [] else effsOf (sig ids nid) 0 (outs t u), pre t u)
    | _, _ => none
  else none
/-- What is known of a function, by its theorem. -/
noncomputable def factOf {P : Program} (f : FuncId) (fn : Func) {c : Code} (hf : P.funcs[f]? = some fn) (hb : fn.body = some c) (hname : (fn.name == "runtime.NumGoroutine") = false) (tps : List TP) (hps : List HP) (keep : Bool)
    (res : TPL.Ty tps → HPL.Ty hps → AV) (outs : TPL.Ty tps → HPL.Ty hps → List AObj) (pre : TPL.Ty tps → HPL.Ty hps → List Prop)
    (hk : keep = true → ∀ t u, outs t u = HPL.enc hps u)
    (hin : ∀ t u, okIn hps.length (TPL.enc tps t) (HPL.enc hps u) = true) (hout : ∀ t u, okOut hps.length (res t u) (outs t u) = true)
    (tr : ∀ t u, (∀ p ∈ pre t u, p) → Tr P hps.length c (fnBegins fn (TPL.enc tps t) (HPL.enc hps u)) (fnEnds P fn (res t u) (outs t u))) : Fact P where
  f := f
  K := factK tps hps keep res outs pre
  ent := ent_of hf hb hname
  ok := fun args h nid x effs need hkk hn => by
    unfold factK at hkk
    simp only at hkk
    generalize meet tps hps args h = ids at hkk
    split at hkk
    case isFalse => cases hkk
    rename_i hids
    split at hkk
    case h_2 => cases hkk
    rename_i t u ht hu
    simp only [Option.some.injEq, Prod.mk.injEq] at hkk
    obtain ⟨rfl, rfl, rfl⟩ := hkk
    obtain ⟨hl, ho⟩ := HPL.dec_eq nid hps hu
    have hlen : hps.length = ids.length := by
      have : ∀ (ps : List HP) (u : HPL.Ty ps), (HPL.enc ps u).length = ps.length := by
        intro ps
        induction ps with
        | nil => intro u; rfl
        | cons p ps ih => intro u; simp [HPL.enc, ih]
      rw [← this hps u, hl]
    have htr := tr t u hn
    have hi := hin t u
    have hq := hout t u
    rw [hlen] at htr hi hq
    have hobj : ∀ k o, (HPL.enc hps u)[k]? = some o → hget h (sig ids nid k) = renO (sig ids nid) o := by
      intro k o hko
      have hlt : k < ids.length := by rw [← hl]; exact (List.getElem?_eq_some_iff.1 hko).1
      obtain ⟨o', h1, h2, _⟩ := ho k ids[k] (List.getElem?_eq_getElem hlt)
      rw [hko] at h1
      injection h1 with h1
      subst h1
      rw [sig_at (List.getElem?_eq_getElem hlt)]
      exact h2
    have hs := sound_of_Tr hf hb (ids := ids) (hr := h) (nid := nid) htr hi hq hids hobj
    rw [← TPL.dec_eq nid tps ht] at hs
    cases keep with
    | false => exact hs
    | true =>
      simp only [if_true]
      refine KSound.drop hs fun e he => ?_
      rw [hk rfl] at he
      have key : ∀ (os : List AObj) (k : Nat), e ∈ effsOf (sig ids nid) k os → ∃ j o, os[j]? = some o ∧ e = (sig ids nid (k + j), renO (sig ids nid) o) := by
        intro os
        induction os with
        | nil => intro k h; simp [effsOf] at h
        | cons o os ih =>
          intro k h
          simp only [effsOf, List.mem_cons] at h
          rcases h with h | h
          · exact ⟨0, o, rfl, h⟩
          · obtain ⟨j, o', h1, h2⟩ := ih (k + 1) h
            exact ⟨j + 1, o', by simpa using h1, by rw [h2]; congr 2; omega⟩
      obtain ⟨j, o, h1, rfl⟩ := key _ 0 he
      have hlt : j < ids.length := by rw [← hl]; exact (List.getElem?_eq_some_iff.1 h1).1
      obtain ⟨o', q1, q2, q3⟩ := ho j ids[j] (List.getElem?_eq_getElem hlt)
      rw [h1] at q1
      injection q1 with q1
      subst q1
      simp only [Nat.zero_add]
      rw [sig_at (List.getElem?_eq_getElem hlt)]
      refine ⟨q2, by rw [← q2]; exact q3, ?_⟩
      simp only [okIds, Bool.and_eq_true, List.all_eq_true, decide_eq_true_eq] at hids
      exact hids.2 _ (List.getElem_mem hlt)
end Go.Eng
