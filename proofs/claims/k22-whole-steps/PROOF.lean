import PyProof.Rows.All
import Wide.All
import OpenK.AllK
import Wide.FinOn
import HandS.ForMost
import HandS.TupAny
import HandS.Rev
import HandS.Zip
import HandS.SetKeys
import HandS.IsInst
import HandS.Walk
import HandS.Style
import PySem.Challenge.RW_backstair_k22_whole_steps_with_notes
set_option Elab.async false
set_option maxRecDepth 100000
set_option maxHeartbeats 4000000
/-! The machines of the law in plain Lean: tapes, the lower machine's rows, its steps both ways. No program in sight. -/
namespace Bs

/-! ### blanks cut from an end -/
def trim : List Int → List Int
  | [] => []
  | a :: l => if a = 0 ∧ trim l = [] then [] else a :: trim l
theorem trim_nil : trim [] = [] := rfl
theorem trim_cons (a : Int) (l : List Int) : trim (a :: l) = if a = 0 ∧ trim l = [] then [] else a :: trim l := rfl
theorem trim_ne {a : Int} {l : List Int} (h : a ≠ 0) : trim (a :: l) = a :: trim l := by
  rw [trim_cons, if_neg (fun q => h q.1)]
theorem trim_idem : ∀ l : List Int, trim (trim l) = trim l
  | [] => rfl
  | a :: l => by
    have ih := trim_idem l
    rw [trim_cons]
    by_cases h : a = 0 ∧ trim l = []
    · rw [if_pos h]; rfl
    · rw [if_neg h, trim_cons, ih, if_neg h]
theorem trim_tail {l : List Int} (h : trim l = l) : trim l.tail = l.tail := by
  cases l with
  | nil => rfl
  | cons a l =>
    rw [trim_cons] at h
    by_cases c : a = 0 ∧ trim l = []
    · rw [if_pos c] at h; cases h
    · rw [if_neg c] at h
      exact (List.cons.inj h).2
theorem trim_mem : ∀ {l : List Int} {x : Int}, x ∈ trim l → x ∈ l
  | [], _, h => h
  | a :: l, x, h => by
    rw [trim_cons] at h
    by_cases c : a = 0 ∧ trim l = []
    · rw [if_pos c] at h; cases h
    · rw [if_neg c] at h
      rcases List.mem_cons.mp h with h | h
      · exact List.mem_cons.mpr (.inl h)
      · exact List.mem_cons.mpr (.inr (trim_mem h))
theorem trim_all : ∀ {l : List Int}, (∀ x ∈ l, x ≠ 0) → trim l = l
  | [], _ => rfl
  | a :: l, h => by
    rw [trim_ne (h a List.mem_cons_self), trim_all fun x hx => h x (List.mem_cons_of_mem _ hx)]
theorem trim_snoc0 : ∀ l : List Int, trim (l ++ [0]) = trim l
  | [] => by simp [trim]
  | a :: l => by
    show trim (a :: (l ++ [0])) = trim (a :: l)
    rw [trim_cons, trim_cons, trim_snoc0 l]
theorem trim_snoc {a : Int} (h : a ≠ 0) : ∀ l : List Int, trim (l ++ [a]) = l ++ [a]
  | [] => by simp [trim, h]
  | b :: l => by
    show trim (b :: (l ++ [a])) = b :: (l ++ [a])
    rw [trim_cons, trim_snoc h l, if_neg (fun q => by simp at q)]
/-- the last of a list that is not empty tells whether it is trimmed -/
theorem trim_last {l : List Int} (h : l ≠ []) : (l.getLast h = 0 → trim l = trim l.dropLast) ∧ (l.getLast h ≠ 0 → trim l = l) := by
  have e : l.dropLast ++ [l.getLast h] = l := List.dropLast_concat_getLast h
  refine ⟨fun z => ?_, fun z => ?_⟩
  · rw [z] at e
    have q := trim_snoc0 l.dropLast
    rw [e] at q
    exact q
  · have q := trim_snoc z l.dropLast
    rw [e] at q
    exact q
theorem trim_len : ∀ l : List Int, (trim l).length ≤ l.length
  | [] => Nat.le_refl _
  | a :: l => by
    rw [trim_cons]
    by_cases c : a = 0 ∧ trim l = []
    · rw [if_pos c]; exact Nat.zero_le _
    · rw [if_neg c]
      exact Nat.succ_le_succ (trim_len l)

/-! ### a tape -/
structure Tp where
  l : List Int
  m : Int
  r : List Int
  deriving DecidableEq
def Tp.ok (t : Tp) : Prop := trim t.l = t.l ∧ trim t.r = t.r
/-- the head moved -/
def mvT (d : Int) (t : Tp) : Tp :=
  if d = 1 then ⟨trim (t.m :: t.l), t.r.headD 0, t.r.tail⟩
  else if d = -1 then ⟨t.l.tail, t.l.headD 0, trim (t.m :: t.r)⟩ else t
theorem mvT_1 (t : Tp) : mvT 1 t = ⟨trim (t.m :: t.l), t.r.headD 0, t.r.tail⟩ := if_pos rfl
theorem mvT_m (t : Tp) : mvT (-1) t = ⟨t.l.tail, t.l.headD 0, trim (t.m :: t.r)⟩ := by
  unfold mvT
  rw [if_neg (by decide), if_pos rfl]
theorem mvT_0 (t : Tp) : mvT 0 t = t := by
  unfold mvT
  rw [if_neg (by decide), if_neg (by decide)]
theorem trim_head_tail {l : List Int} (h : trim l = l) : trim (l.headD 0 :: l.tail) = l := by
  cases l with
  | nil => simp [trim]
  | cons a l => exact h
theorem trim_cons_head {a : Int} {l : List Int} (h : trim l = l) : (trim (a :: l)).headD 0 = a ∧ (trim (a :: l)).tail = l := by
  rw [trim_cons]
  by_cases c : a = 0 ∧ trim l = []
  · rw [if_pos c]
    obtain ⟨c1, c2⟩ := c
    rw [h] at c2
    exact ⟨c1.symm, c2.symm⟩
  · rw [if_neg c, h]
    exact ⟨rfl, rfl⟩
theorem mvT_inv (d : Int) {t : Tp} (h : t.ok) : mvT (-d) (mvT d t) = t := by
  obtain ⟨l, m, r⟩ := t
  obtain ⟨hl, hr⟩ := h
  by_cases h1 : d = 1
  · subst h1
    rw [mvT_1, mvT_m]
    obtain ⟨e1, e2⟩ := trim_cons_head (a := m) hl
    show Tp.mk (trim (m :: l)).tail ((trim (m :: l)).headD 0) (trim (r.headD 0 :: r.tail)) = _
    rw [e1, e2, trim_head_tail hr]
  · by_cases h2 : d = -1
    · subst h2
      rw [mvT_m]
      show mvT 1 _ = _
      rw [mvT_1]
      obtain ⟨e1, e2⟩ := trim_cons_head (a := m) hr
      show Tp.mk (trim (l.headD 0 :: l.tail)) ((trim (m :: r)).headD 0) (trim (m :: r)).tail = _
      rw [e1, e2, trim_head_tail hl]
    · unfold mvT
      rw [if_neg h1, if_neg h2, if_neg (by omega), if_neg (by omega)]
theorem mvT_ok (d : Int) {t : Tp} (h : t.ok) : (mvT d t).ok := by
  obtain ⟨l, m, r⟩ := t
  obtain ⟨hl, hr⟩ := h
  unfold mvT
  by_cases h1 : d = 1
  · rw [if_pos h1]
    exact ⟨trim_idem _, trim_tail hr⟩
  · rw [if_neg h1]
    by_cases h2 : d = -1
    · rw [if_pos h2]
      exact ⟨trim_tail hl, trim_idem _⟩
    · rw [if_neg h2]
      exact ⟨hl, hr⟩
def Tp.wt (t : Tp) : Nat := t.l.length + t.r.length
theorem wt_mvT (d : Int) (t : Tp) : (mvT d t).wt ≤ t.wt + 1 := by
  obtain ⟨l, m, r⟩ := t
  have h1 := trim_len (m :: l)
  have h2 := trim_len (m :: r)
  unfold mvT Tp.wt
  by_cases c : d = 1
  · rw [if_pos c]
    simp only [List.length_cons, List.length_tail] at *
    omega
  · rw [if_neg c]
    by_cases c2 : d = -1
    · rw [if_pos c2]
      simp only [List.length_cons, List.length_tail] at *
      omega
    · rw [if_neg c2]
      omega
/-- all marks of a tape below m -/
def InM (m : Nat) (x : Int) : Prop := 0 ≤ x ∧ x < m
structure TpIn (m : Nat) (t : Tp) : Prop where
  ok : t.ok
  lo : ∀ x ∈ t.l, InM m x
  mid : InM m t.m
  hi : ∀ x ∈ t.r, InM m x
theorem headD_in {m : Nat} (hm : 0 < m) {l : List Int} (h : ∀ x ∈ l, InM m x) : InM m (l.headD 0) := by
  cases l with
  | nil => exact ⟨Int.le_refl _, by show (0 : Int) < m; omega⟩
  | cons a l => exact h a List.mem_cons_self
theorem mvT_in (d : Int) {m : Nat} (hm : 0 < m) {t : Tp} (h : TpIn m t) : TpIn m (mvT d t) := by
  have ok := mvT_ok d h.ok
  obtain ⟨_, hl, hx, hr⟩ := h
  obtain ⟨l, x, r⟩ := t
  have tl : ∀ {k : List Int}, (∀ x ∈ k, InM m x) → ∀ x ∈ k.tail, InM m x := fun h x hx => h x (List.mem_of_mem_tail hx)
  have tr : ∀ {k : List Int}, (∀ x ∈ k, InM m x) → ∀ y ∈ trim (x :: k), InM m y := fun h y hy => by
    rcases List.mem_cons.mp (trim_mem hy) with e | e
    · rw [e]; exact hx
    · exact h y e
  refine ⟨ok, ?_, ?_, ?_⟩ <;> unfold mvT <;> by_cases h1 : d = 1
  · rw [if_pos h1]; exact tr hl
  · rw [if_neg h1]
    by_cases h2 : d = -1
    · rw [if_pos h2]; exact tl hl
    · rw [if_neg h2]; exact hl
  · rw [if_pos h1]; exact headD_in hm hr
  · rw [if_neg h1]
    by_cases h2 : d = -1
    · rw [if_pos h2]; exact headD_in hm hl
    · rw [if_neg h2]; exact hx
  · rw [if_pos h1]; exact tl hr
  · rw [if_neg h1]
    by_cases h2 : d = -1
    · rw [if_pos h2]; exact tr hr
    · rw [if_neg h2]; exact hr

/-! ### rows, steps -/
inductive Row where
  | wr (q r0 r1 w0 w1 n : Int)
  | mv (q d0 d1 n : Int)
  deriving DecidableEq
def Row.st : Row → Int
  | .wr q _ _ _ _ _ => q
  | .mv q _ _ _ => q
def Row.nx : Row → Int
  | .wr _ _ _ _ _ n => n
  | .mv _ _ _ n => n
def bk : Row → Row
  | .wr q r0 r1 w0 w1 n => .wr n w0 w1 r0 r1 q
  | .mv q d0 d1 n => .mv n (-d0) (-d1) q
/-- a lower configuration -/
structure LC where
  q : Int
  t0 : Tp
  t1 : Tp
  deriving DecidableEq
def app (c : LC) : Row → Bool
  | .wr q r0 r1 _ _ _ => decide (q = c.q ∧ r0 = c.t0.m ∧ r1 = c.t1.m)
  | .mv q _ _ _ => decide (q = c.q)
def act (c : LC) : Row → LC
  | .wr _ _ _ w0 w1 n => ⟨n, ⟨c.t0.l, w0, c.t0.r⟩, ⟨c.t1.l, w1, c.t1.r⟩⟩
  | .mv _ d0 d1 n => ⟨n, mvT d0 c.t0, mvT d1 c.t1⟩
def LC.wt (c : LC) : Nat := c.t0.wt + c.t1.wt
theorem wt_act (c : LC) (r : Row) : (act c r).wt ≤ c.wt + 2 := by
  cases r with
  | wr q r0 r1 w0 w1 n =>
    show c.t0.wt + c.t1.wt ≤ _
    exact Nat.le_add_right _ _
  | mv q d0 d1 n =>
    show (mvT d0 c.t0).wt + (mvT d1 c.t1).wt ≤ c.t0.wt + c.t1.wt + 2
    have h1 := wt_mvT d0 c.t0
    have h2 := wt_mvT d1 c.t1
    omega
def stepR (rows : List Row) (c : LC) : Option LC := (rows.find? (app c)).map (act c)
/-- two rows that don't clash forwards -/
def nc : Row → Row → Prop
  | .wr q r0 r1 _ _ _, .wr q' r0' r1' _ _ _ => q = q' → ¬ (r0 = r0' ∧ r1 = r1')
  | a, b => a.st ≠ b.st
theorem nc_app {c : LC} {a b : Row} (h : nc a b) (ha : app c a = true) (hb : app c b = true) : False := by
  cases a <;> cases b <;> simp only [app, nc, Row.st, decide_eq_true_eq] at h ha hb <;> omega
theorem app_uniq {c : LC} {a b : Row} : ∀ {rows : List Row}, rows.Pairwise nc → a ∈ rows → b ∈ rows → app c a = true → app c b = true → a = b
  | [], _, h, _, _, _ => by cases h
  | r :: rows, p, h1, h2, ha, hb => by
    obtain ⟨p1, p2⟩ := List.pairwise_cons.mp p
    rcases List.mem_cons.mp h1 with e1 | e1 <;> rcases List.mem_cons.mp h2 with e2 | e2
    · exact e1.trans e2.symm
    · subst e1; exact (nc_app (p1 b e2) ha hb).elim
    · subst e2; exact (nc_app (p1 a e1) hb ha).elim
    · exact app_uniq p2 e1 e2 ha hb
theorem step_mem {c : LC} {r : Row} {rows : List Row} (p : rows.Pairwise nc) (h : r ∈ rows) (ha : app c r = true) : stepR rows c = some (act c r) := by
  unfold stepR
  cases e : rows.find? (app c) with
  | none =>
    rw [List.find?_eq_none] at e
    exact absurd ha (e r h)
  | some b =>
    have hb := List.find?_some e
    have hm := List.mem_of_find?_eq_some e
    rw [app_uniq p hm h hb ha]
    rfl
theorem step_none {c : LC} {rows : List Row} (h : ∀ r ∈ rows, app c r = true → False) : stepR rows c = none := by
  unfold stepR
  have e : rows.find? (app c) = none := List.find?_eq_none.mpr fun r hr ha => h r hr ha
  rw [e]
  rfl
theorem wt_step {rows : List Row} {c d : LC} (h : stepR rows c = some d) : d.wt ≤ c.wt + 2 := by
  unfold stepR at h
  cases e : rows.find? (app c) with
  | none => rw [e] at h; cases h
  | some r =>
    rw [e] at h
    have h : act c r = d := Option.some.inj h
    rw [← h]
    exact wt_act c r
/-- steps in a row -/
def iter (rows : List Row) : Nat → LC → Option LC
  | 0, c => some c
  | n + 1, c => (stepR rows c).bind (iter rows n)
theorem iter_snoc {rows : List Row} : ∀ {n : Nat} {c d e : LC}, iter rows n c = some d → stepR rows d = some e → iter rows (n + 1) c = some e
  | 0, c, d, e, h, q => by
    have h : c = d := Option.some.inj h
    subst h
    show (stepR rows c).bind (iter rows 0) = some e
    rw [q]
    rfl
  | n + 1, c, d, e, h, q => by
    have h : (stepR rows c).bind (iter rows n) = some d := h
    show (stepR rows c).bind (iter rows (n + 1)) = some e
    cases z : stepR rows c with
    | none => rw [z] at h; cases h
    | some x =>
      rw [z] at h
      exact iter_snoc (n := n) h q
theorem iter_cons {rows : List Row} {n : Nat} {c d e : LC} (h : stepR rows c = some d) (q : iter rows n d = some e) : iter rows (n + 1) c = some e := by
  show (stepR rows c).bind (iter rows n) = some e
  rw [h]
  exact q

/-! ### the upper machine, the lower machine's rows -/
abbrev URow := Option (Int × Int × Int)
structure UOk (m s : Nat) (R : List URow) : Prop where
  m0 : 0 < m
  len : R.length = m * s
  ok : ∀ (i : Nat) (b d t : Int), R[i]? = some (some (b, d, t)) → InM m b ∧ (d = 1 ∨ d = -1) ∧ InM s t
/-- a pair that has a row -/
structure Pr where
  q : Nat
  a : Nat
  b : Int
  d : Int
  t : Int
def prsA (m q : Nat) (R : List URow) (a : Nat) : List Pr := match R[m * q + a]? with
  | some (some (b, d, t)) => [⟨q, a, b, d, t⟩]
  | _ => []
def prs (m s : Nat) (R : List URow) : List Pr := (List.range s).flatMap fun q => (List.range m).flatMap (prsA m q R)
/-- the row that notes -/
def noteRow (m s : Nat) (x : Pr) (c : Nat) : Row := .wr (2 * (s : Int) + (m * s : Nat) + (m * x.q + x.a : Nat)) c 0 c ((m * x.q + x.a : Nat) + 1) (s + x.t)
def prRows (m s : Nat) (x : Pr) : List Row :=
  .wr x.q x.a 0 x.b 0 (2 * (s : Int) + (m * x.q + x.a : Nat)) :: .mv (2 * (s : Int) + (m * x.q + x.a : Nat)) x.d 0 (2 * (s : Int) + (m * s : Nat) + (m * x.q + x.a : Nat)) :: (List.range m).map (noteRow m s x)
def lowRows (m s : Nat) (R : List URow) : List Row := (prs m s R).flatMap (prRows m s) ++ (List.range s).map fun q : Nat => .mv ((s : Int) + q) 0 1 q
structure PrOk (m s : Nat) (R : List URow) (x : Pr) : Prop where
  q : x.q < s
  a : x.a < m
  at_ : R[m * x.q + x.a]? = some (some (x.b, x.d, x.t))
theorem prsA_mem {m q a : Nat} {R : List URow} {x : Pr} (h : x ∈ prsA m q R a) : x.q = q ∧ x.a = a ∧ R[m * q + a]? = some (some (x.b, x.d, x.t)) := by
  unfold prsA at h
  split at h
  · rename_i b d t e
    have h := List.mem_singleton.mp h
    subst h
    exact ⟨rfl, rfl, e⟩
  · cases h
theorem prs_mem {m s : Nat} {R : List URow} {x : Pr} (h : x ∈ prs m s R) : PrOk m s R x := by
  unfold prs at h
  obtain ⟨q, hq, h⟩ := List.mem_flatMap.mp h
  obtain ⟨a, ha, h⟩ := List.mem_flatMap.mp h
  obtain ⟨e1, e2, e3⟩ := prsA_mem h
  subst e1 e2
  exact ⟨List.mem_range.mp hq, List.mem_range.mp ha, e3⟩
theorem mem_prs {m s q a : Nat} {R : List URow} {b d t : Int} (hq : q < s) (ha : a < m) (h : R[m * q + a]? = some (some (b, d, t))) : (⟨q, a, b, d, t⟩ : Pr) ∈ prs m s R := by
  unfold prs
  refine List.mem_flatMap.mpr ⟨q, List.mem_range.mpr hq, List.mem_flatMap.mpr ⟨a, List.mem_range.mpr ha, ?_⟩⟩
  unfold prsA
  rw [h]
  exact List.mem_singleton.mpr rfl
theorem num_lt {m q q' a a' : Nat} (h : q < q') (ha : a < m) : m * q + a < m * q' + a' := by
  have h1 : m * (q + 1) ≤ m * q' := Nat.mul_le_mul_left m h
  rw [Nat.mul_add, Nat.mul_one] at h1
  omega
theorem num_top {m s q a : Nat} (h : q < s) (ha : a < m) : m * q + a < m * s := by
  have h1 : m * (q + 1) ≤ m * s := Nat.mul_le_mul_left m h
  rw [Nat.mul_add, Nat.mul_one] at h1
  omega
theorem prs_pw (m s : Nat) (R : List URow) : (prs m s R).Pairwise fun x y => m * x.q + x.a < m * y.q + y.a := by
  unfold prs
  rw [List.pairwise_flatMap]
  refine ⟨fun q _ => ?_, ?_⟩
  · rw [List.pairwise_flatMap]
    refine ⟨fun a _ => ?_, ?_⟩
    · unfold prsA
      split
      · exact List.pairwise_singleton _ _
      · exact List.Pairwise.nil
    · refine List.pairwise_lt_range.imp fun {a b} hab x hx y hy => ?_
      obtain ⟨e1, e2, _⟩ := prsA_mem hx
      obtain ⟨e3, e4, _⟩ := prsA_mem hy
      rw [e1, e2, e3, e4]
      omega
  · refine List.pairwise_lt_range.imp fun {q q'} hq x hx y hy => ?_
    obtain ⟨a, ha, hx⟩ := List.mem_flatMap.mp hx
    obtain ⟨b, hb, hy⟩ := List.mem_flatMap.mp hy
    obtain ⟨e1, e2, _⟩ := prsA_mem hx
    obtain ⟨e3, e4, _⟩ := prsA_mem hy
    rw [e1, e2, e3, e4]
    exact num_lt hq (List.mem_range.mp ha)
/-- the three kinds of a pair's rows -/
theorem prRows_mem {m s : Nat} {x : Pr} {r : Row} (h : r ∈ prRows m s x) :
    r = .wr x.q x.a 0 x.b 0 (2 * (s : Int) + (m * x.q + x.a : Nat)) ∨ r = .mv (2 * (s : Int) + (m * x.q + x.a : Nat)) x.d 0 (2 * (s : Int) + (m * s : Nat) + (m * x.q + x.a : Nat)) ∨ ∃ c, c < m ∧ r = noteRow m s x c := by
  unfold prRows at h
  rcases List.mem_cons.mp h with h | h
  · exact .inl h
  · rcases List.mem_cons.mp h with h | h
    · exact .inr (.inl h)
    · obtain ⟨c, hc, e⟩ := List.mem_map.mp h
      exact .inr (.inr ⟨c, List.mem_range.mp hc, e.symm⟩)
theorem low_mem {m s : Nat} {R : List URow} {r : Row} (h : r ∈ lowRows m s R) : (∃ x, PrOk m s R x ∧ r ∈ prRows m s x) ∨ ∃ q : Nat, q < s ∧ r = .mv ((s : Int) + q) 0 1 q := by
  unfold lowRows at h
  rcases List.mem_append.mp h with h | h
  · obtain ⟨x, hx, h⟩ := List.mem_flatMap.mp h
    exact .inl ⟨x, prs_mem hx, h⟩
  · obtain ⟨q, hq, e⟩ := List.mem_map.mp h
    exact .inr ⟨q, List.mem_range.mp hq, e.symm⟩
theorem mem_low {m s : Nat} {R : List URow} {x : Pr} {r : Row} (h : PrOk m s R x) (hr : r ∈ prRows m s x) : r ∈ lowRows m s R :=
  List.mem_append.mpr (.inl (List.mem_flatMap.mpr ⟨x, mem_prs h.q h.a h.at_, hr⟩))
theorem mem_low2 {m s q : Nat} {R : List URow} (h : q < s) : (.mv ((s : Int) + q) 0 1 q : Row) ∈ lowRows m s R :=
  List.mem_append.mpr (.inr (List.mem_map.mpr ⟨q, List.mem_range.mpr h, rfl⟩))
theorem low_nc {m s : Nat} {R : List URow} (_ : UOk m s R) : (lowRows m s R).Pairwise nc := by
  unfold lowRows
  rw [List.pairwise_append]
  refine ⟨?_, ?_, ?_⟩
  · rw [List.pairwise_flatMap]
    refine ⟨fun x hx => ?_, ?_⟩
    · have o := prs_mem hx
      have hq := o.q
      unfold prRows
      refine List.pairwise_cons.mpr ⟨fun r hr => ?_, List.pairwise_cons.mpr ⟨fun r hr => ?_, ?_⟩⟩
      · rcases List.mem_cons.mp hr with e | e
        · subst e; simp only [nc, Row.st]; omega
        · obtain ⟨c, _, e⟩ := List.mem_map.mp e
          subst e; simp only [nc, noteRow]; omega
      · obtain ⟨c, hc, e⟩ := List.mem_map.mp hr
        have hc := List.mem_range.mp hc
        have := num_top o.q o.a
        subst e; simp only [nc, Row.st, noteRow]; omega
      · rw [List.pairwise_map]
        refine List.pairwise_lt_range.imp fun {c c'} h => ?_
        simp only [nc, noteRow]
        omega
    · have mp : ∀ x ∈ prs m s R, PrOk m s R x := fun x hx => prs_mem hx
      refine (List.Pairwise.and_mem.mp (prs_pw m s R)).imp fun {x y} h r hr r' hr' => ?_
      obtain ⟨hx, hy, h⟩ := h
      have ox := prs_mem hx
      have oy := prs_mem hy
      have h1 := ox.q
      have h2 := oy.q
      have h3 := num_top ox.q ox.a
      have h4 := num_top oy.q oy.a
      have ne : ¬ (x.q = y.q ∧ x.a = y.a) := fun ⟨e1, e2⟩ => by rw [e1, e2] at h; omega
      rcases prRows_mem hr with e | e | ⟨c, hc, e⟩ <;> rcases prRows_mem hr' with e' | e' | ⟨c', hc', e'⟩ <;> subst e <;> subst e' <;> simp only [nc, Row.st, noteRow] <;> omega
  · rw [List.pairwise_map]
    refine List.pairwise_lt_range.imp fun {c c'} h => ?_
    simp only [nc, Row.st]
    omega
  · intro r hr r' hr'
    obtain ⟨x, hx, hr⟩ := List.mem_flatMap.mp hr
    have o := prs_mem hx
    have h1 := o.q
    obtain ⟨q, hq, e⟩ := List.mem_map.mp hr'
    have hq := List.mem_range.mp hq
    subst e
    rcases prRows_mem hr with e | e | ⟨c, hc, e⟩ <;> subst e <;> simp only [nc, Row.st, noteRow] <;> omega
theorem low_ncb {m s : Nat} {R : List URow} (u : UOk m s R) : ((lowRows m s R).map bk).Pairwise nc := by
  rw [List.pairwise_map]
  unfold lowRows
  rw [List.pairwise_append]
  refine ⟨?_, ?_, ?_⟩
  · rw [List.pairwise_flatMap]
    refine ⟨fun x hx => ?_, ?_⟩
    · have o := prs_mem hx
      have hq := o.q
      have ht := (u.ok _ _ _ _ o.at_).2.2
      have hp := num_top o.q o.a
      unfold InM at ht
      unfold prRows
      refine List.pairwise_cons.mpr ⟨fun r hr => ?_, List.pairwise_cons.mpr ⟨fun r hr => ?_, ?_⟩⟩
      · rcases List.mem_cons.mp hr with e | e
        · subst e; simp only [nc, bk, Row.st]; omega
        · obtain ⟨c, _, e⟩ := List.mem_map.mp e
          subst e; simp only [nc, bk, noteRow]; omega
      · obtain ⟨c, hc, e⟩ := List.mem_map.mp hr
        have hc := List.mem_range.mp hc
        subst e; simp only [nc, bk, Row.st, noteRow]; omega
      · rw [List.pairwise_map]
        refine List.pairwise_lt_range.imp fun {c c'} h => ?_
        simp only [nc, bk, noteRow]
        omega
    · refine (List.Pairwise.and_mem.mp (prs_pw m s R)).imp fun {x y} h r hr r' hr' => ?_
      obtain ⟨hx, hy, h⟩ := h
      have ox := prs_mem hx
      have oy := prs_mem hy
      have h1 := ox.q
      have h2 := oy.q
      have h3 := num_top ox.q ox.a
      have h4 := num_top oy.q oy.a
      have h5 := (u.ok _ _ _ _ ox.at_).2.2
      have h6 := (u.ok _ _ _ _ oy.at_).2.2
      unfold InM at h5 h6
      rcases prRows_mem hr with e | e | ⟨c, hc, e⟩ <;> rcases prRows_mem hr' with e' | e' | ⟨c', hc', e'⟩ <;> subst e <;> subst e' <;> simp only [nc, bk, Row.st, noteRow] <;> omega
  · rw [List.pairwise_map]
    refine List.pairwise_lt_range.imp fun {c c'} h => ?_
    simp only [nc, bk, Row.st]
    omega
  · intro r hr r' hr'
    obtain ⟨x, hx, hr⟩ := List.mem_flatMap.mp hr
    have o := prs_mem hx
    have h1 := o.q
    have h5 := (u.ok _ _ _ _ o.at_).2.2
    unfold InM at h5
    obtain ⟨q, hq, e⟩ := List.mem_map.mp hr'
    have hq := List.mem_range.mp hq
    subst e
    rcases prRows_mem hr with e | e | ⟨c, hc, e⟩ <;> subst e <;> simp only [nc, bk, Row.st, noteRow] <;> omega

/-! ### the stair -/
structure UC where
  q : Int
  t : Tp
  deriving DecidableEq
structure UCok (m s : Nat) (c : UC) : Prop where
  q : InM s c.q
  t : TpIn m c.t
abbrev Past := List (Int × Int)
def PastOk (m s : Nat) (p : Past) : Prop := ∀ x ∈ p, InM s x.1 ∧ InM m x.2
def noteOf (m : Nat) (x : Int × Int) : Int := m * x.1 + x.2 + 1
def notes (m : Nat) (p : Past) : List Int := (p.map (noteOf m)).reverse
def down (m : Nat) (c : UC) (p : Past) : LC := ⟨c.q, c.t, ⟨notes m p, 0, []⟩⟩
def rowOf (m : Nat) (R : List URow) (c : UC) : URow := (R[(m * c.q + c.t.m).toNat]?).join
def stepU (m : Nat) (R : List URow) (c : UC) : Option UC := (rowOf m R c).map fun x => ⟨x.2.2, mvT x.2.1 ⟨c.t.l, x.1, c.t.r⟩⟩
theorem note_pos {m s : Nat} {p : Past} (h : PastOk m s p) : ∀ x ∈ notes m p, 0 < x := by
  intro x hx
  obtain ⟨y, hy, e⟩ := List.mem_map.mp (List.mem_reverse.mp hx)
  obtain ⟨⟨a1, _⟩, ⟨b1, _⟩⟩ := h y hy
  have : 0 ≤ (m : Int) * y.1 := Int.mul_nonneg (Int.natCast_nonneg m) a1
  rw [← e]
  unfold noteOf
  omega
theorem notes_snoc (m : Nat) (p : Past) (x : Int × Int) : notes m (p ++ [x]) = noteOf m x :: notes m p := by
  unfold notes
  rw [List.map_append, List.reverse_append]
  rfl
theorem inM_nat {m : Nat} {x : Int} (h : InM m x) : ∃ n : Nat, n < m ∧ x = n := by
  obtain ⟨h1, h2⟩ := h
  exact ⟨x.toNat, by omega, by omega⟩
/-- the three configurations between, and the fourth -/
structure Four (m s : Nat) (R : List URow) (c c' : UC) (p : Past) (c1 c2 c3 : LC) : Prop where
  s1 : stepR (lowRows m s R) (down m c p) = some c1
  s2 : stepR (lowRows m s R) c1 = some c2
  s3 : stepR (lowRows m s R) c2 = some c3
  s4 : stepR (lowRows m s R) c3 = some (down m c' (p ++ [(c.q, c.t.m)]))
  b1 : stepR ((lowRows m s R).map bk) c1 = some (down m c p)
  b2 : stepR ((lowRows m s R).map bk) c2 = some c1
  b3 : stepR ((lowRows m s R).map bk) c3 = some c2
  b4 : stepR ((lowRows m s R).map bk) (down m c' (p ++ [(c.q, c.t.m)])) = some c3
  q1 : (s : Int) ≤ c1.q
  q2 : (s : Int) ≤ c2.q
  q3 : (s : Int) ≤ c3.q
  ok : UCok m s c'
  pok : PastOk m s (p ++ [(c.q, c.t.m)])
theorem row_at {m s : Nat} {R : List URow} (_ : UOk m s R) {c : UC} (h : UCok m s c) : ∃ q a : Nat, q < s ∧ a < m ∧ c.q = q ∧ c.t.m = a ∧ rowOf m R c = (R[m * q + a]?).join := by
  obtain ⟨q, hq, eq⟩ := inM_nat h.q
  obtain ⟨a, ha, ea⟩ := inM_nat h.t.mid
  refine ⟨q, a, hq, ha, eq, ea, ?_⟩
  unfold rowOf
  rw [eq, ea]
  congr 1
theorem four {m s : Nat} {R : List URow} (u : UOk m s R) {c c' : UC} {p : Past} (hc : UCok m s c) (hp : PastOk m s p) (h : stepU m R c = some c') : ∃ c1 c2 c3, Four m s R c c' p c1 c2 c3 := by
  obtain ⟨q, a, hq, ha, eq, ea, er⟩ := row_at u hc
  unfold stepU at h
  rw [er] at h
  cases e : R[m * q + a]? with
  | none => rw [e] at h; cases h
  | some o =>
    cases o with
    | none => rw [e] at h; cases h
    | some x =>
      obtain ⟨b, d, t⟩ := x
      rw [e] at h
      have h : (⟨t, mvT d ⟨c.t.l, b, c.t.r⟩⟩ : UC) = c' := Option.some.inj h
      subst h
      obtain ⟨hb, hd, ht⟩ := u.ok _ _ _ _ e
      obtain ⟨q', T⟩ := c
      have eq : q' = q := eq
      subst eq
      have ea : T.m = (a : Int) := ea
      have hT : TpIn m T := hc.t
      have hT1 : TpIn m ⟨T.l, b, T.r⟩ := ⟨hT.ok, hT.lo, hb, hT.hi⟩
      have o : PrOk m s R ⟨q, a, b, d, t⟩ := ⟨hq, ha, e⟩
      have fw := low_nc u
      have bw := low_ncb u
      obtain ⟨tn, htn, et⟩ := inM_nat ht
      have hT2 := mvT_in d u.m0 hT1
      obtain ⟨cn, hcn, ec⟩ := inM_nat hT2.mid
      have np := note_pos hp
      have r1 : (Row.wr q a 0 b 0 (2 * (s : Int) + (m * q + a : Nat))) ∈ lowRows m s R := mem_low o List.mem_cons_self
      have r2 : (Row.mv (2 * (s : Int) + (m * q + a : Nat)) d 0 (2 * (s : Int) + (m * s : Nat) + (m * q + a : Nat))) ∈ lowRows m s R := mem_low o (List.mem_cons_of_mem _ List.mem_cons_self)
      have r3 : noteRow m s ⟨q, a, b, d, t⟩ cn ∈ lowRows m s R := mem_low o (List.mem_cons_of_mem _ (List.mem_cons_of_mem _ (List.mem_map.mpr ⟨cn, List.mem_range.mpr hcn, rfl⟩)))
      have r4 : (Row.mv ((s : Int) + tn) 0 1 tn) ∈ lowRows m s R := mem_low2 htn
      have no : notes m (p ++ [((q : Int), T.m)]) = ((m * q + a : Nat) + 1 : Int) :: notes m p := by
        rw [notes_snoc]
        unfold noteOf
        rw [ea]
        congr 1
      have pok : PastOk m s (p ++ [((q : Int), T.m)]) := fun x hx => by
        rcases List.mem_append.mp hx with hx | hx
        · exact hp x hx
        · rw [List.mem_singleton.mp hx]
          exact ⟨hc.q, hT.mid⟩
      have np2 := note_pos pok
      have tr : trim (((m * q + a : Nat) + 1 : Int) :: notes m p) = ((m * q + a : Nat) + 1 : Int) :: notes m p := by
        rw [← no]
        exact trim_all fun x hx => by have := np2 x hx; omega
      have trn : trim (notes m p) = notes m p := trim_all fun x hx => by have := np x hx; omega
      refine ⟨⟨2 * (s : Int) + (m * q + a : Nat), ⟨T.l, b, T.r⟩, ⟨notes m p, 0, []⟩⟩, ⟨2 * (s : Int) + (m * s : Nat) + (m * q + a : Nat), mvT d ⟨T.l, b, T.r⟩, ⟨notes m p, 0, []⟩⟩,
        ⟨s + t, mvT d ⟨T.l, b, T.r⟩, ⟨notes m p, ((m * q + a : Nat) + 1 : Int), []⟩⟩, ?_, ?_, ?_, ?_, ?_, ?_, ?_, ?_, ?_, ?_, ?_, ?_, ?_⟩
      · rw [step_mem fw r1 (by simp [app, down, ea])]
        rfl
      · rw [step_mem fw r2 (by simp [app])]
        simp only [act, mvT_0]
      · rw [step_mem fw r3 (by simp [app, noteRow, ec])]
        simp only [act, noteRow]
        rw [← ec]
      · rw [et] 
        rw [step_mem fw r4 (by simp [app])]
        simp only [act, mvT_0, mvT_1, down, no]
        rw [tr]
        rfl
      · rw [step_mem bw (List.mem_map.mpr ⟨_, r1, rfl⟩) (by simp [app, bk])]
        simp only [act, bk, down]
        rw [← ea]
      · rw [step_mem bw (List.mem_map.mpr ⟨_, r2, rfl⟩) (by simp [app, bk])]
        simp only [act, bk, mvT_inv d hT1.ok, Int.neg_zero, mvT_0]
      · rw [step_mem bw (List.mem_map.mpr ⟨_, r3, rfl⟩) (by simp [app, bk, noteRow, ec])]
        simp only [act, bk, noteRow]
        rw [← ec]
      · rw [step_mem bw (List.mem_map.mpr ⟨_, r4, rfl⟩) (by simp [app, bk, down, et])]
        simp only [act, bk, down, no, Int.neg_zero, mvT_0, mvT_m]
        rw [et]
        rfl
      · show (s : Int) ≤ 2 * (s : Int) + (m * q + a : Nat); omega
      · show (s : Int) ≤ 2 * (s : Int) + (m * s : Nat) + (m * q + a : Nat); omega
      · show (s : Int) ≤ s + t; omega
      · exact ⟨ht, hT2⟩
      · exact pok
theorem halted {m s : Nat} {R : List URow} (u : UOk m s R) {c : UC} {p : Past} (hc : UCok m s c) (h : stepU m R c = none) : stepR (lowRows m s R) (down m c p) = none := by
  obtain ⟨q, a, hq, ha, eq, ea, er⟩ := row_at u hc
  refine step_none fun r hr hap => ?_
  rcases low_mem hr with ⟨x, o, hx⟩ | ⟨q', hq', e⟩
  · have h1 := o.q
    rcases prRows_mem hx with e | e | ⟨c', hc', e⟩
    · subst e
      simp only [app, down, eq, ea, decide_eq_true_eq] at hap
      have e1 : x.q = q := by omega
      have e2 : x.a = a := by omega
      have z := o.at_
      rw [e1, e2] at z
      unfold stepU at h
      rw [er, z] at h
      cases h
    · subst e
      simp only [app, down, eq, decide_eq_true_eq] at hap
      omega
    · subst e
      simp only [app, noteRow, down, eq, decide_eq_true_eq] at hap
      omega
  · subst e
    simp only [app, down, eq, decide_eq_true_eq] at hap
    omega
theorem entered {m s : Nat} {R : List URow} (u : UOk m s R) {c : UC} (hc : UCok m s c) :
    stepR ((lowRows m s R).map bk) (down m c []) = some ⟨s + c.q, c.t, ⟨[], 0, []⟩⟩ ∧ stepR ((lowRows m s R).map bk) ⟨s + c.q, c.t, ⟨[], 0, []⟩⟩ = none := by
  obtain ⟨q, hq, eq⟩ := inM_nat hc.q
  refine ⟨?_, step_none fun r hr hap => ?_⟩
  · have r4 : (Row.mv ((s : Int) + q) 0 1 q) ∈ lowRows m s R := mem_low2 hq
    rw [step_mem (low_ncb u) (List.mem_map.mpr ⟨_, r4, rfl⟩) (by simp [app, bk, down, eq])]
    simp only [act, bk, down, Int.neg_zero, mvT_0, mvT_m]
    rw [eq]
    rfl
  · obtain ⟨r', hr', e⟩ := List.mem_map.mp hr
    subst e
    rcases low_mem hr' with ⟨x, o, hx⟩ | ⟨q', hq', e⟩
    · have h1 := o.q
      rcases prRows_mem hx with e | e | ⟨c', hc', e⟩
      · subst e
        simp only [app, bk, eq, decide_eq_true_eq] at hap
        omega
      · subst e
        simp only [app, bk, eq, decide_eq_true_eq] at hap
        omega
      · subst e
        simp only [app, bk, noteRow, decide_eq_true_eq] at hap
        omega
    · subst e
      simp only [app, bk, eq, decide_eq_true_eq] at hap
      omega
end Bs

/-! How the data of the law lie in the heap; comprehensions as maps; what a def's proof is handed. -/
namespace Bs
open PySem L2

/-! ### heaps -/
/-- all tuples stand -/
def TS (H H' : Hp) : Prop := ∀ a xs, H a = some (.tup xs) → H' a = some (.tup xs)
theorem TS.refl (H : Hp) : TS H H := fun _ _ h => h
theorem TS.trans {H H1 H2 : Hp} (a : TS H H1) (b : TS H1 H2) : TS H H2 := fun c xs h => b c xs (a c xs h)
theorem Same.ts {H H' : Hp} (s : Same H H') : TS H H' := fun a _ h => s a _ h
theorem TS.up {H : Hp} {p : Addr} {o : HO} (h : ∀ xs, H p ≠ some (.tup xs)) : TS H (upd H p o) := fun a xs e => by
  rw [upd_ne (fun q => h xs (by rw [← q]; exact e))]
  exact e
theorem TS.lst {H : Hp} {p : Addr} {o : HO} {ys : List V} (h : H p = some (.lst ys)) : TS H (upd H p o) := .up fun xs e => by rw [h] at e; cases e
theorem nw {H : Hp} {p : Addr} {o : HO} (h : H p = none) : Same H (upd H p o) := fun b x e => by
  rw [upd_ne (ne_of_none e h)]
  exact e
/-- an own object changed -/
theorem ow {H0 H : Hp} {p : Addr} {o : HO} (s : Same H0 H) (h : H0 p = none) : Same H0 (upd H p o) := fun b x e => by
  rw [upd_ne (ne_of_none e h)]
  exact s _ _ e

/-! ### lists side by side -/
def Al {α : Type} (F : V → α → Prop) (xs : List V) (ds : List α) : Prop := xs.length = ds.length ∧ ∀ (i : Nat) (x : V) (d : α), xs[i]? = some x → ds[i]? = some d → F x d
theorem Al.mono {α : Type} {F G : V → α → Prop} {xs : List V} {ds : List α} (a : Al F xs ds) (h : ∀ x d, F x d → G x d) : Al G xs ds := ⟨a.1, fun i x d h1 h2 => h x d (a.2 i x d h1 h2)⟩
theorem Al.nil {α : Type} {F : V → α → Prop} : Al F [] [] := ⟨rfl, fun i x d h => by simp at h⟩
theorem Al.get {α : Type} {F : V → α → Prop} {xs : List V} {ds : List α} (a : Al F xs ds) {i : Nat} {d : α} (h : ds[i]? = some d) : ∃ x, xs[i]? = some x ∧ F x d := by
  have hi : i < xs.length := by
    rw [a.1]
    exact (List.getElem?_eq_some_iff.mp h).1
  exact ⟨xs[i], List.getElem?_eq_getElem hi, a.2 i _ d (List.getElem?_eq_getElem hi) h⟩
theorem Al.of {α : Type} {F : V → α → Prop} {xs : List V} {ds : List α} (a : Al F xs ds) {i : Nat} {x : V} (h : xs[i]? = some x) : ∃ d, ds[i]? = some d ∧ F x d := by
  have hi : i < ds.length := by
    rw [← a.1]
    exact (List.getElem?_eq_some_iff.mp h).1
  exact ⟨ds[i], List.getElem?_eq_getElem hi, a.2 i x _ h (List.getElem?_eq_getElem hi)⟩
theorem Al.snoc {α : Type} {F : V → α → Prop} {xs : List V} {ds : List α} {x : V} {d : α} (a : Al F xs ds) (h : F x d) : Al F (xs ++ [x]) (ds ++ [d]) := by
  refine ⟨by simp [a.1], fun i y e h1 h2 => ?_⟩
  by_cases hi : i < xs.length
  · rw [List.getElem?_append_left hi] at h1
    rw [List.getElem?_append_left (by rw [← a.1]; exact hi)] at h2
    exact a.2 i y e h1 h2
  · rw [List.getElem?_append_right (by omega)] at h1
    rw [List.getElem?_append_right (by rw [← a.1]; omega), ← a.1] at h2
    cases k : i - xs.length with
    | zero =>
      rw [k] at h1 h2
      have e1 : x = y := Option.some.inj h1
      have e2 : d = e := Option.some.inj h2
      rw [← e1, ← e2]
      exact h
    | succ n =>
      rw [k] at h1
      simp at h1
theorem Al.cons {α : Type} {F : V → α → Prop} {xs : List V} {ds : List α} {x : V} {d : α} (h : F x d) (a : Al F xs ds) : Al F (x :: xs) (d :: ds) := by
  refine ⟨by simp [a.1], fun i y e h1 h2 => ?_⟩
  cases i with
  | zero =>
    have e1 : x = y := Option.some.inj h1
    have e2 : d = e := Option.some.inj h2
    rw [← e1, ← e2]
    exact h
  | succ n => exact a.2 n y e h1 h2
theorem Al.app {α : Type} {F : V → α → Prop} {xs ys : List V} {ds es : List α} (a : Al F xs ds) (b : Al F ys es) : Al F (xs ++ ys) (ds ++ es) := by
  refine ⟨by simp [a.1, b.1], fun i y e h1 h2 => ?_⟩
  by_cases hi : i < xs.length
  · rw [List.getElem?_append_left hi] at h1
    rw [List.getElem?_append_left (by rw [← a.1]; exact hi)] at h2
    exact a.2 i y e h1 h2
  · rw [List.getElem?_append_right (by omega)] at h1
    rw [List.getElem?_append_right (by rw [← a.1]; omega), ← a.1] at h2
    exact b.2 _ y e h1 h2
theorem acc_eq {acc : List V} {n : Nat} {f : Nat → V} (h : acc.length = n) (k : ∀ j v, acc[j]? = some v → v = f j) : acc = (List.range n).map f := by
  apply List.ext_getElem?
  intro j
  by_cases hj : j < n
  · have e : acc[j]? = some acc[j] := List.getElem?_eq_getElem (by omega)
    rw [e, k j _ e, List.getElem?_map, List.getElem?_range hj]
    rfl
  · rw [List.getElem?_eq_none (by omega), List.getElem?_eq_none (by simp; omega)]

/-! ### the data -/
/-- a tuple of ints -/
def IT (H : Hp) (v : V) (ns : List Int) : Prop := ∃ a, v = .ref a ∧ H a = some (.tup (ns.map V.int))
/-- a pair of ints -/
def PA2 (H : Hp) (v : V) (x : Int × Int) : Prop := ∃ a, v = .ref a ∧ H a = some (.tup [.int x.1, .int x.2])
def PastA (H : Hp) (v : V) (p : Past) : Prop := ∃ a xs, v = .ref a ∧ H a = some (.tup xs) ∧ Al (PA2 H) xs p
def TpA (H : Hp) (v : V) (t : Tp) : Prop := ∃ a x y, v = .ref a ∧ H a = some (.tup [x, .int t.m, y]) ∧ IT H x t.l ∧ IT H y t.r
def LCA (H : Hp) (v : V) (c : LC) : Prop := ∃ a b x y, v = .ref a ∧ H a = some (.tup [.int c.q, .ref b]) ∧ H b = some (.tup [x, y]) ∧ TpA H x c.t0 ∧ TpA H y c.t1
def UCA (H : Hp) (v : V) (c : UC) : Prop := ∃ a x y, v = .ref a ∧ H a = some (.tup [.int c.q, x, .int c.t.m, y]) ∧ IT H x c.t.l ∧ IT H y c.t.r
def URA (H : Hp) (v : V) (o : URow) : Prop := match o with
  | none => v = .non
  | some (b, d, t) => ∃ a, v = .ref a ∧ H a = some (.tup [.int b, .int d, .int t])
def RowA (H : Hp) (v : V) (r : Row) : Prop := match r with
  | .wr q r0 r1 w0 w1 n => ∃ a x y, v = .ref a ∧ H a = some (.tup [.str "write", .int q, x, y, .int n]) ∧ IT H x [r0, r1] ∧ IT H y [w0, w1]
  | .mv q d0 d1 n => ∃ a x, v = .ref a ∧ H a = some (.tup [.str "move", .int q, x, .int n]) ∧ IT H x [d0, d1]
section
variable {H H' : Hp} (k : TS H H')
include k
theorem IT.ts {v : V} {ns : List Int} (h : IT H v ns) : IT H' v ns := let ⟨a, e, h⟩ := h; ⟨a, e, k _ _ h⟩
theorem PA2.ts {v : V} {x : Int × Int} (h : PA2 H v x) : PA2 H' v x := let ⟨a, e, h⟩ := h; ⟨a, e, k _ _ h⟩
theorem PastA.ts {v : V} {p : Past} (h : PastA H v p) : PastA H' v p := let ⟨a, xs, e, h, q⟩ := h; ⟨a, xs, e, k _ _ h, q.mono fun _ _ z => PA2.ts k z⟩
theorem TpA.ts {v : V} {t : Tp} (h : TpA H v t) : TpA H' v t := let ⟨a, x, y, e, h, p, q⟩ := h; ⟨a, x, y, e, k _ _ h, IT.ts k p, IT.ts k q⟩
theorem LCA.ts {v : V} {c : LC} (h : LCA H v c) : LCA H' v c := let ⟨a, b, x, y, e, h, h2, p, q⟩ := h; ⟨a, b, x, y, e, k _ _ h, k _ _ h2, TpA.ts k p, TpA.ts k q⟩
theorem UCA.ts {v : V} {c : UC} (h : UCA H v c) : UCA H' v c := let ⟨a, x, y, e, h, p, q⟩ := h; ⟨a, x, y, e, k _ _ h, IT.ts k p, IT.ts k q⟩
theorem URA.ts {v : V} {o : URow} (h : URA H v o) : URA H' v o := by
  cases o with
  | none => exact h
  | some x =>
    obtain ⟨a, e, h⟩ := h
    exact ⟨a, e, k _ _ h⟩
theorem RowA.ts {v : V} {r : Row} (h : RowA H v r) : RowA H' v r := by
  cases r with
  | wr q r0 r1 w0 w1 n =>
    obtain ⟨a, x, y, e, h, p, q⟩ := h
    exact ⟨a, x, y, e, k _ _ h, IT.ts k p, IT.ts k q⟩
  | mv q d0 d1 n =>
    obtain ⟨a, x, e, h, p⟩ := h
    exact ⟨a, x, e, k _ _ h, IT.ts k p⟩
end
/-! ### the data as the library's data, for == and != -/
def dI (ns : List Int) : PyData := .tuple (ns.map PyData.int)
def dP (x : Int × Int) : PyData := .tuple [.int x.1, .int x.2]
def dPast (p : Past) : PyData := .tuple (p.map dP)
def dT (t : Tp) : PyData := .tuple [dI t.l, .int t.m, dI t.r]
def dL (c : LC) : PyData := .tuple [.int c.q, .tuple [dT c.t0, dT c.t1]]
def dU (c : UC) : PyData := .tuple [.int c.q, dI c.t.l, .int c.t.m, dI c.t.r]
section
variable {K : PySem.W.Frag} {H : Hp}
theorem dpAll_ints : ∀ ns : List Int, DpAll K H (ns.map V.int) (ns.map PyData.int)
  | [] => .nil
  | n :: ns => .cons (.int n) (dpAll_ints ns)
theorem IT.dp {v : V} {ns : List Int} (h : IT H v ns) : Dp K H v (dI ns) := by
  obtain ⟨a, rfl, h⟩ := h
  exact .tup (SqT.of h) (dpAll_ints ns)
theorem PA2.dp {v : V} {x : Int × Int} (h : PA2 H v x) : Dp K H v (dP x) := by
  obtain ⟨a, rfl, h⟩ := h
  exact .tup (SqT.of h) (.cons (.int _) (.cons (.int _) .nil))
theorem dpAll_al {α : Type} {F : V → α → Prop} {f : α → PyData} (hf : ∀ x d, F x d → Dp K H x (f d)) : ∀ {xs : List V} {ds : List α}, Al F xs ds → DpAll K H xs (ds.map f)
  | [], [], _ => .nil
  | [], d :: ds, h => by have := h.1; simp at this
  | x :: xs, [], h => by have := h.1; simp at this
  | x :: xs, d :: ds, h => .cons (hf _ _ (h.2 0 x d rfl rfl)) (dpAll_al hf (xs := xs) (ds := ds) ⟨by have := h.1; simpa using this, fun i y e h1 h2 => h.2 (i + 1) y e h1 h2⟩)
theorem PastA.dp {v : V} {p : Past} (h : PastA H v p) : Dp K H v (dPast p) := by
  obtain ⟨a, xs, rfl, h, q⟩ := h
  exact .tup (SqT.of h) (dpAll_al (fun _ _ z => z.dp) q)
theorem TpA.dp {v : V} {t : Tp} (h : TpA H v t) : Dp K H v (dT t) := by
  obtain ⟨a, x, y, rfl, h, p, q⟩ := h
  exact .tup (SqT.of h) (.cons p.dp (.cons (.int _) (.cons q.dp .nil)))
theorem LCA.dp {v : V} {c : LC} (h : LCA H v c) : Dp K H v (dL c) := by
  obtain ⟨a, b, x, y, rfl, h, h2, p, q⟩ := h
  exact .tup (SqT.of h) (.cons (.int _) (.cons (.tup (SqT.of h2) (.cons p.dp (.cons q.dp .nil))) .nil))
theorem UCA.dp {v : V} {c : UC} (h : UCA H v c) : Dp K H v (dU c) := by
  obtain ⟨a, x, y, rfl, h, p, q⟩ := h
  exact .tup (SqT.of h) (.cons (.int _) (.cons p.dp (.cons (.int _) (.cons q.dp .nil))))
end
/-! ### comprehensions that map -/
theorem lc_mapR {J : It} {n : Nat} {G : Hp → Prop} {Y : Nat → Hp → V → Hp → Prop} {g : TG} {te : TE} {vs : List Nat} {σ : L2.St} {H1 : Hp} {D : Addr} {Qd : Hp → Prop} (w : Walk J n G Y) (R : Nat → V → Hp → Prop)
    (hD : H1 D = none) (hn : n ≤ sizeLine) (stab : ∀ j v H H', TS H H' → R j v H → R j v H') (hG : ∀ H, Same H1 H → G H) (hY : ∀ i H x H', Y i H x H' → Same H H')
    (hs : ∀ (i : Nat) (x : V) (H H' : Hp) (NX : V → Hp → Prop), i < n → Same H1 H → Y i H x H' → (∀ y H4, Same H' H4 → R i y H4 → NX y H4) → g x (wipe σ vs) H' fun σ2 H2 => wipe σ2 vs = wipe σ vs ∧ te σ2 H2 NX)
    (hd : ∀ H acc, Same H1 H → H D = some (.lst acc) → acc.length = n → (∀ j v, acc[j]? = some v → R j v H) → Qd H) :
    ∃ W : Nat → Nat → Hp → Prop, (∃ m, W 0 m (upd H1 D (.lst []))) ∧ ∀ i m H, W i m H →
      (J.stop i H ∧ Qd H) ∨ (J.go i H ∧ ∃ Nx : Hp → Prop, (∀ H', Nx H' → ∃ m', m' < m ∧ W (i + 1) m' H') ∧ ∀ x H', J.yld i H x H' → g x (wipe σ vs) H' fun σ2 H2 => wipe σ2 vs = wipe σ vs ∧ tYes σ2 H2 fun b H3 =>
        if b = true then te σ2 H3 fun y H4 => ∃ acc, H4 D = some (.lst acc) ∧ acc.length < sizeLine ∧ Nx (upd H4 D (.lst (acc ++ [y]))) else Nx H3) := by
  refine lc_it w (fun i H => Same H1 H ∧ ∃ acc, H D = some (.lst acc) ∧ acc.length = i ∧ ∀ j v, acc[j]? = some v → R j v H) ⟨nw hD, [], upd_same, rfl, fun j v h => by simp at h⟩ (fun i H _ p => hG H p.1) (fun i x H H' hi p y => ?_)
    fun H p => let ⟨s, acc, e, l, r⟩ := p; hd H acc s e l r
  obtain ⟨s, acc, e, l, r⟩ := p
  have sy := hY i H x H' y
  have z := hs i x H H' (fun y H4 => ∃ acc, H4 D = some (.lst acc) ∧ acc.length < sizeLine ∧ Same H1 (upd H4 D (.lst (acc ++ [y]))) ∧ ∃ acc', (upd H4 D (.lst (acc ++ [y]))) D = some (.lst acc') ∧ acc'.length = i + 1 ∧ ∀ j v, acc'[j]? = some v → R j v (upd H4 D (.lst (acc ++ [y])))) hi s y ?_
  · exact z
  · intro y' H4 s4 r4
    have e4 : H4 D = some (.lst acc) := s4 _ _ (sy _ _ e)
    have t4 : TS H4 (upd H4 D (.lst (acc ++ [y']))) := .lst e4
    refine ⟨acc, e4, by omega, ow ((s.trans sy).trans s4) hD, _, upd_same, by simp [l], fun j v h => ?_⟩
    by_cases hj : j < acc.length
    · rw [List.getElem?_append_left hj] at h
      exact stab j v H _ ((Same.ts (sy.trans s4)).trans t4) (r j v h)
    · rw [List.getElem?_append_right (by omega)] at h
      have ej : j = i := by
        by_cases q : j = i
        · exact q
        · rw [List.getElem?_eq_none (by simp; omega)] at h
          cases h
      rw [ej, l, Nat.sub_self] at h
      have ev : y' = v := Option.some.inj h
      rw [← ev, ej]
      exact stab i y' H4 _ t4 r4
section
variable {K : PySem.W.Frag} {a b : Addr} {xs ys : List V}
theorem walk_revT : Walk (RT.ItvT K a xs.length) xs.length (fun H => SqT K H a xs) (fun i H x H' => H' = H ∧ xs[xs.length - 1 - i]? = some x) :=
  ⟨fun i _ hi q => ⟨hi, xs, xs[xs.length - 1 - i]'(by omega), q, by simp [show xs.length - 1 - i < xs.length by omega]⟩, fun _ _ => Nat.le_refl _, fun _ _ _ _ _ q y => ⟨y.1, y.2 xs q⟩⟩
theorem walk_zipT {n : Nat} (hn : n = min xs.length ys.length) : Walk (RZ.ItzT K a b) n (fun H => SqT K H a xs ∧ SqT K H b ys) (YPair (fun i => xs[i]?) (fun i => ys[i]?)) := by
  subst hn
  refine ⟨fun i _ hi q => ?_, fun _ q => ⟨xs, ys, q.1, q.2, by omega⟩, fun i H v H' _ q y => ?_⟩
  · have h1 : i < xs.length := by omega
    have h2 : i < ys.length := by omega
    exact ⟨xs, ys, xs[i], ys[i], q.1, q.2, by simp [h1], by simp [h2]⟩
  · obtain ⟨T, x, z, h1, h2, h3, h4, h5⟩ := y
    exact ⟨T, x, z, h1, h2, h3, h4 xs q.1, h5 ys q.2⟩
end
theorem yAt_same {xs : List V} (i : Nat) (H : Hp) (x : V) (H' : Hp) (y : YAt xs i H x H') : Same H H' := by
  obtain ⟨e, _⟩ := y
  rw [e]
  exact .refl H
theorem yFn_same {f : Nat → V} (i : Nat) (H : Hp) (x : V) (H' : Hp) (y : YFn f i H x H') : Same H H' := by
  obtain ⟨e, _⟩ := y
  rw [e]
  exact .refl H
theorem yPair_same {f g : Nat → Option V} (i : Nat) (H : Hp) (x : V) (H' : Hp) (y : YPair f g i H x H') : Same H H' := by
  obtain ⟨T, u, v, _, h, e, _⟩ := y
  rw [e]
  exact nw h

/-! ### what a def's proof is handed -/
section
variable (P : Program) (w : World) (K : PySem.W.Frag) (mg : Str → Option Value) (base : Heap)
/-- the module's def x keeps the promise sp -/
def OkF (k : Nat) (x : Str) (ps : List Str) (sp : Sp) : Prop := ∃ f fd, mg x = some (.ref f) ∧ PySem.W.keepIn K (.ref f) = true ∧ Binds K fd ps [] ∧ FnOk P w K mg base CX0 k f fd ps sp
/-- the method m of the class at C -/
def OkM (k : Nat) (C : Addr) (m : Str) (ps : List Str) (sp : Sp) : Prop := ∃ f fd, Meth K C m f ∧ Binds K fd ps [] ∧ FnOk P w K mg base CX0 k f fd ps sp
/-- the __init__ of the class at C -/
def OkI (k : Nat) (C : Addr) (ps : List Str) (sp : Sp) : Prop := ∃ f fd, Mk K C f ∧ Binds K fd ps [] ∧ FnOk P w K mg base CX0 k f fd ps sp
end
/-- a def as the top has left it -/
def DefF (K : PySem.W.Frag) (mg : Str → Option Value) (x : Str) (st : Stmt) (ps : List Str) : Prop := ∃ f fd, mg x = some (.ref f) ∧ Binds K fd ps [] ∧ Fun K x x st f fd
def DefM (K : PySem.W.Frag) (C : Addr) (m q : Str) (st : Stmt) (ps : List Str) : Prop := ∃ f fd, Meth K C m f ∧ Binds K fd ps [] ∧ Fun K m q st f fd
def DefI (K : PySem.W.Frag) (C : Addr) (q : Str) (st : Stmt) (ps : List Str) : Prop := ∃ f fd, Mk K C f ∧ Binds K fd ps [] ∧ Fun K "__init__" q st f fd
/-- the module's names and classes as the top has left them: CT the class Tape, CS Several, CH History -/
structure Txt (K : PySem.W.Frag) (mg : Str → Option Value) (CT CS CH : Addr) : Prop where
  isinstance : mg "isinstance" = none
  int : mg "int" = none
  bool : mg "bool" = none
  len : mg "len" = none
  tuple : mg "tuple" = none
  list : mg "list" = none
  all : mg "all" = none
  any : mg "any" = none
  enumerate : mg "enumerate" = none
  zip : mg "zip" = none
  range : mg "range" = none
  reversed : mg "reversed" = none
  divmod : mg "divmod" = none
  abs : mg "abs" = none
  mmT : ∃ t, mg "MOST_MARKS_tape" = some (.int 8 t)
  msT : ∃ t, mg "MOST_STATES_tape" = some (.int 40 t)
  mt : ∃ t, mg "MOST_TAPES" = some (.int 4 t)
  mmS : ∃ t, mg "MOST_MARKS_several" = some (.int 400 t)
  msS : ∃ t, mg "MOST_STATES_several" = some (.int 5000 t)
  mr : ∃ t, mg "MOST_ROWS" = some (.int 20000 t)
  gT : mg "Tape" = some (.ref CT)
  gS : mg "Several" = some (.ref CS)
  gH : mg "History" = some (.ref CH)
  cT : Cls K CT
  cS : Cls K CS
  cH : Cls K CH
  tMarks : NoAttr K CT "marks"
  tStates : NoAttr K CT "states"
  tRows : NoAttr K CT "_rows"
  sTapes : NoAttr K CS "tapes"
  sMarks : NoAttr K CS "marks"
  sStates : NoAttr K CS "states"
  sRows : NoAttr K CS "_rows"
  sBack : NoAttr K CS "_back_clash"
  sBy : NoAttr K CS "_by_state"
  sNx : NoAttr K CS "_by_next"
  hUpper : NoAttr K CH "upper"
  hPairs : NoAttr K CH "_pairs"
  hLower : NoAttr K CH "lower"
theorem bIsi : bootBuiltins "isinstance" = some (.builtin "isinstance") := by decide +kernel
theorem bInt : bootBuiltins "int" = some (.type "int") := by decide +kernel
theorem bBool : bootBuiltins "bool" = some (.type "bool") := by decide +kernel
theorem bTuple : bootBuiltins "tuple" = some (.type "tuple") := by decide +kernel
theorem bList : bootBuiltins "list" = some (.type "list") := by decide +kernel
theorem bAll : bootBuiltins "all" = some (.builtin "all") := by decide +kernel
theorem bAny : bootBuiltins "any" = some (.builtin "any") := by decide +kernel
theorem bAbs : bootBuiltins "abs" = some (.builtin "abs") := by decide +kernel
theorem bDivmod : bootBuiltins "divmod" = some (.builtin "divmod") := by decide +kernel
theorem kInt : PySem.W.kitOne (K : PySem.W.Frag) (.type "int") (.type "int") = some true := kit_ty (by decide +kernel)
theorem kIntBool : PySem.W.kitOne (K : PySem.W.Frag) (.type "int") (.type "bool") = some false := kit_ty (by decide +kernel)
theorem kTup : PySem.W.kitOne (K : PySem.W.Frag) (.type "tuple") (.type "tuple") = some true := kit_ty (by decide +kernel)
def top (i : Nat) : Stmt := PySem.Challenge.pw_backstair_k22_whole_steps_with_notes.main.body.getD i (.Pass ⟨0, 0, 0, 0⟩)
end Bs

/-! is_integer, is_number, trimmed -/
namespace Bs
open PySem L2
section
variable {P : Program} {w : World} {K : PySem.W.Frag} {mg : Str → Option Value} {base : Heap} {CT CS CH : Addr}
/-- int between two bounds -/
def spBtw : Sp := fun vs H Q _ => ∃ v lo hi : Int, vs = [.int v, .int lo, .int hi] ∧ Q (.bl (decide (lo ≤ v) && decide (v ≤ hi))) H
abbrev sIsInt : Stmt := top 8
theorem scIsInt : FnScope ["value", "least", "most"] ["value", "least", "most"] (defScope sIsInt) := ⟨rfl, rfl, rfl, by decide +kernel, rfl, by decide +kernel, by decide +kernel⟩
theorem ok_isInt (T : Txt K mg CT CS CH) (D : DefF K mg "is_integer" sIsInt ["value", "least", "most"]) : OkF P w K mg base 1 "is_integer" ["value", "least", "most"] spBtw := by
  obtain ⟨f, fd, g, b, F⟩ := D
  refine ⟨f, fd, g, F.kp, b, F.ok scIsInt (fun vs H Q E h => ?_) (fun cdv A outer s H vs Q E hr h => ?_)⟩
  · obtain ⟨v, lo, hi, rfl, _⟩ := h
    rfl
  · obtain ⟨v, lo, hi, rfl, q⟩ := h
    refine ⟨_, pss_one (ps_ret (pe_and (pe_callB call_isi (by rfl) T.isinstance bIsi (pa_cons (pv 0) (pa_cons (pe_bltn (v := .ty "int") (by rfl) T.int bInt rfl) pa_nil)))
      (pe_and (pe_not (pe_callB call_isi (by rfl) T.isinstance bIsi (pa_cons (pv 0) (pa_cons (pe_bltn (v := .ty "bool") (by rfl) T.bool bBool rfl) pa_nil))))
      (pe_one (pe_chain op_le op_le (pv 1) (pv 0) (pv 2)))))), ?_⟩
    refine ⟨_, rfl, _, _, _, _, _, rfl, .ty _, .base (.int _), kInt, true, rfl, iteT ?_⟩
    refine ⟨_, rfl, _, _, _, _, _, rfl, .ty _, .base (.int _), kIntBool, false, rfl, true, rfl, iteT ?_⟩
    refine ⟨_, rfl, _, rfl, _, _, rfl, rfl, _, rfl, ?_⟩
    by_cases c : lo ≤ v
    · rw [decide_eq_true c] at q ⊢
      rw [Bool.true_and] at q
      exact iteT ⟨_, rfl, _, _, rfl, rfl, q⟩
    · rw [decide_eq_false c] at q ⊢
      rw [Bool.false_and] at q
      exact iteF q
abbrev sIsNum : Stmt := top 16
theorem scIsNum : FnScope ["value", "least", "most"] ["value", "least", "most"] (defScope sIsNum) := ⟨rfl, rfl, rfl, by decide +kernel, rfl, by decide +kernel, by decide +kernel⟩
theorem ok_isNum (T : Txt K mg CT CS CH) (D : DefF K mg "is_number" sIsNum ["value", "least", "most"]) : OkF P w K mg base 1 "is_number" ["value", "least", "most"] spBtw := by
  obtain ⟨f, fd, g, b, F⟩ := D
  refine ⟨f, fd, g, F.kp, b, F.ok scIsNum (fun vs H Q E h => ?_) (fun cdv A outer s H vs Q E hr h => ?_)⟩
  · obtain ⟨v, lo, hi, rfl, _⟩ := h
    rfl
  · obtain ⟨v, lo, hi, rfl, q⟩ := h
    refine ⟨_, pss_one (ps_ret (pe_and (pe_callB call_isi (by rfl) T.isinstance bIsi (pa_cons (pv 0) (pa_cons (pe_bltn (v := .ty "int") (by rfl) T.int bInt rfl) pa_nil)))
      (pe_and (pe_not (pe_callB call_isi (by rfl) T.isinstance bIsi (pa_cons (pv 0) (pa_cons (pe_bltn (v := .ty "bool") (by rfl) T.bool bBool rfl) pa_nil))))
      (pe_one (pe_chain op_le op_le (pv 1) (pv 0) (pv 2)))))), ?_⟩
    refine ⟨_, rfl, _, _, _, _, _, rfl, .ty _, .base (.int _), kInt, true, rfl, iteT ?_⟩
    refine ⟨_, rfl, _, _, _, _, _, rfl, .ty _, .base (.int _), kIntBool, false, rfl, true, rfl, iteT ?_⟩
    refine ⟨_, rfl, _, rfl, _, _, rfl, rfl, _, rfl, ?_⟩
    by_cases c : lo ≤ v
    · rw [decide_eq_true c] at q ⊢
      rw [Bool.true_and] at q
      exact iteT ⟨_, rfl, _, _, rfl, rfl, q⟩
    · rw [decide_eq_false c] at q ⊢
      rw [Bool.false_and] at q
      exact iteF q
/-- a tuple of ints, its blanks cut -/
def spTrim : Sp := fun vs H Q _ => ∃ v ns, vs = [v] ∧ IT H v ns ∧ ∀ H' u, Same H H' → IT H' u (trim ns) → Q u H'
abbrev sTrim : Stmt := top 9
theorem scTrim : FnScope ["marks", "count"] ["marks"] (defScope sTrim) := ⟨rfl, rfl, rfl, by decide +kernel, rfl, by decide +kernel, by decide +kernel⟩
theorem take_ints {ns : List Int} {k : Nat} (h : k ≤ ns.length) : cutV (ns.map V.int) none (some (k : Int)) = (ns.take k).map V.int := by
  unfold cutV
  rw [HT.sIx_none, HT.sIx_nat, List.length_map, Nat.min_eq_left h, List.drop_zero, Nat.sub_zero, List.map_take]
theorem ok_trim (T : Txt K mg CT CS CH) (D : DefF K mg "trimmed" sTrim ["marks"]) : OkF P w K mg base 1 "trimmed" ["marks"] spTrim := by
  obtain ⟨f, fd, g, b, F⟩ := D
  refine ⟨f, fd, g, F.kp, b, F.ok scTrim (fun vs H Q E h => ?_) (fun cdv A outer s H vs Q E hr h => ?_)⟩
  · obtain ⟨v, ns, rfl, _⟩ := h
    rfl
  · obtain ⟨v, ns, rfl, ⟨a, rfl, ha⟩, q⟩ := h
    refine ⟨_, pss_cons (ps_set (i := 1) scTrim.nd rfl (Or.inl rfl) (pe_callB call_len_seq (by rfl) T.len PySem.boot_len (pa_cons (pv 0) pa_nil)))
      (pss_cons (ps_while PassesOwn.never (PW.pt (pw_and (pt_cmpR op_gt (pv 1) pe_int (nomark _)) (pw_and1 (pt_cmpR op_eq (pe_ix ix_tup (pv 0) (pe_op op_sub (pv 1) pe_int) (fun _ _ => rfl)) pe_int (nomark _)))))
        (pss_one (ps_aug (i := 1) scTrim.nd rfl (Or.inl rfl) pe_int ip_sub)))
      (pss_one (ps_ret (pe_callTy call_tupleT (by rfl) T.tuple bTuple (pa_cons (pe_slice sl_tupA (pv 0) po_none (po_some (pv 1))) pa_nil))))), ?_⟩
    refine ⟨_, rfl, _, _, rfl, .inr (SqT.of ha), ?_⟩
    refine while_by (fun σ H' => H' = H ∧ ∃ k : Nat, k ≤ ns.length ∧ trim (ns.take k) = trim ns ∧ σ = [some (.ref a), some (.int k)]) (fun σ _ => match σ with | [_, some (.int k)] => k.toNat | _ => 0)
      ⟨rfl, ns.length, Nat.le_refl _, by rw [List.take_length], by rw [List.length_map]; rfl⟩ ?_ ?_
    · rintro σ H' ⟨rfl, k, hk, et, rfl⟩
      refine ⟨_, rfl, _, _, rfl, rfl, _, rfl, ?_⟩
      have fin : trim (ns.take k) = ns.take k → tRet (tCB (fun xs H Q => ∃ a ys, xs = [.ref a] ∧ SqT K H a ys ∧ Q (.ref a) H) (tCons (tSl (rSlA K) (tVar 0) tNoPart (tPart (tVar 1))) tNil)) { nx := fun _ H' => Q .non H', rt := Q } [some (.ref a), some (.int k)] H' := by
        intro e
        rw [et] at e
        refine ⟨_, rfl, _, rfl, _, rfl, a, _, rfl, SqT.of ha, fun z => ?_, fun z p hp => ?_⟩
        · refine ⟨a, _, rfl, SqT.of ha, q _ _ (.refl _) ⟨a, rfl, ?_⟩⟩
          have z2 := z.2
          rw [HT.sIx_nat, List.length_map, Nat.min_eq_left hk] at z2
          rw [e, z2, List.take_length]
          exact ha
        · refine ⟨p, _, rfl, SqT.of upd_same, q _ _ (nw hp) ⟨p, rfl, ?_⟩⟩
          rw [upd_same, take_ints hk, e]
      by_cases k0 : 0 < k
      · rw [decide_eq_true (show (0 : Int) < (k : Int) by omega)]
        refine iteT ?_
        have hk1 : k - 1 < ns.length := by omega
        have ek : ((k : Int) - 1) = ((k - 1 : Nat) : Int) := by omega
        refine ⟨_, rfl, _, rfl, _, _, rfl, rfl, a, _, _, V.int ns[k - 1], rfl, rfl, SqT.of ha, ?_, rfl, _, rfl, ?_⟩
        · rw [ek]
          refine atI_nat ?_
          rw [List.getElem?_map, List.getElem?_eq_getElem hk1]
          rfl
        · have tk : ns.take k = ns.take (k - 1) ++ [ns[k - 1]] := by
            have := List.take_succ_eq_append_getElem hk1
            rw [← this]
            congr 1
            omega
          refine ite2 (fun z => ?_) (fun z => ?_)
          · have z0 : ns[k - 1] = 0 := V.int.inj (of_decide_eq_true z)
            refine ⟨_, rfl, _, _, rfl, rfl, ⟨rfl, k - 1, by omega, ?_, ?_⟩, ?_⟩
            · rw [← et, tk, z0, trim_snoc0]
            · show [some (V.ref a), some (V.int ((k : Int) - 1))] = _
              rw [ek]
            · show ((k : Int) - 1).toNat < (k : Int).toNat
              omega
          · have z0 : ns[k - 1] ≠ 0 := fun e => z (decide_eq_true (by rw [e]))
            refine fin ?_
            rw [tk]
            exact trim_snoc z0 _
      · rw [decide_eq_false (show ¬ (0 : Int) < (k : Int) by omega)]
        refine iteF (iteF (fin ?_))
        have : k = 0 := by omega
        rw [this]
        rfl
    · intro σ H1 Q1 Q2 hm hh
      obtain ⟨v1, e1, x1, y1, ex, ey, k1, ek, h1⟩ := hh
      refine ⟨v1, e1, x1, y1, ex, ey, k1, ek, ?_⟩
      cases k1 with
      | false => exact hm _ _ h1
      | true =>
        obtain ⟨v2, e2, v3, e3, i, j, ei, ej, p, xs, i2, v4, e4, e5, sq, at_, r⟩ := h1
        obtain ⟨sc, k2, ek2, r⟩ := r
        exact ⟨v2, e2, v3, e3, i, j, ei, ej, p, xs, i2, v4, e4, e5, sq, at_, sc, k2, ek2, hm _ _ r⟩
end
end Bs

/-! is_tuple, backward, moved_tape -/
namespace Bs
open PySem L2
section
variable {K : PySem.W.Frag} {H : Hp} {Q : VK}
/-! readings over tuples of ints -/
theorem rd_cat {x y : V} {ns ms : List Int} (hx : IT H x ns) (hy : IT H y ms) (hl : ns.length + ms.length ≤ 10000000) (q : ∀ H' u, Same H H' → IT H' u (ns ++ ms) → Q u H') : rCatA K x y H Q := by
  obtain ⟨a, rfl, ha⟩ := hx
  obtain ⟨b, rfl, hb⟩ := hy
  refine ⟨a, b, _, _, rfl, rfl, SqT.of ha, SqT.of hb, ?_, fun e => ?_, fun _ e => ?_, fun _ _ p hp => ?_⟩
  · rw [List.length_map, List.length_map, sizeLine_eq]
    omega
  · have e : ns = [] := List.map_eq_nil_iff.mp e
    subst e
    exact q _ _ (.refl _) ⟨b, rfl, hb⟩
  · have e : ms = [] := List.map_eq_nil_iff.mp e
    subst e
    rw [List.append_nil] at q
    exact q _ _ (.refl _) ⟨a, rfl, ha⟩
  · exact q _ _ (nw hp) ⟨p, rfl, by rw [upd_same, List.map_append]⟩
theorem rd_tail {x : V} {ns : List Int} (hx : IT H x ns) (q : ∀ H' u, Same H H' → IT H' u ns.tail → Q u H') : rSlA K x (some 1) none H Q := by
  obtain ⟨a, rfl, ha⟩ := hx
  refine ⟨a, _, rfl, SqT.of ha, fun z => ?_, fun z p hp => ?_⟩
  · have z1 := z.1
    rw [show (1 : Int) = ((1 : Nat) : Int) from rfl, HT.sIx_nat, List.length_map] at z1
    have e : ns = [] := by
      cases ns with
      | nil => rfl
      | cons n r =>
        rw [List.length_cons] at z1
        omega
    subst e
    exact q _ _ (.refl _) ⟨a, rfl, ha⟩
  · refine q _ _ (nw hp) ⟨p, rfl, ?_⟩
    have e : cutV (ns.map V.int) (some 1) none = ns.tail.map V.int := by
      unfold cutV
      rw [show HT.sIx (ns.map V.int).length 0 (some 1) = min 1 (ns.map V.int).length from HT.sIx_nat (ns.map V.int).length 0 1, HT.sIx_none]
      cases ns with
      | nil => rfl
      | cons n r =>
        rw [show min 1 ((n :: r).map V.int).length = 1 by
          rw [List.length_map, List.length_cons]
          omega]
        show (List.take (((n :: r).map V.int).length - 1) (r.map V.int)) = r.map V.int
        rw [List.length_map, List.length_cons, Nat.add_sub_cancel]
        exact List.take_of_length_le (by rw [List.length_map]; exact Nat.le_refl _)
    rw [upd_same, e]
theorem rd_ix {x : V} {ns : List Int} {j : Nat} {z : Int} (hx : IT H x ns) (hj : ns[j]? = some z) (q : Q (.int z) H) : rIxT K x (.int j) H Q := by
  obtain ⟨a, rfl, ha⟩ := hx
  refine ⟨a, _, _, V.int z, rfl, rfl, SqT.of ha, atI_nat ?_, q⟩
  rw [List.getElem?_map, hj]
  rfl
theorem tc {v : V} {σ : L2.St} {Q : VK} (h : Q v H) : tC v σ H Q := h
theorem rd_sl1 {x : V} {σ : L2.St} {k : Int} (h : rSlA K x (some k) none H Q) : tPart (tC (.int k)) σ H fun l H2 => tNoPart σ H2 fun u H3 => rSlA K x l u H3 Q := ⟨k, rfl, h⟩
theorem rd_head {x : V} {ns : List Int} (hx : IT H x (ns ++ [0])) (q : Q (.int (ns.headD 0)) H) : rIxT K x (.int 0) H Q := by
  refine rd_ix (j := 0) hx ?_ q
  cases ns <;> rfl
end
section
variable {P : Program} {w : World} {K : PySem.W.Frag} {mg : Str → Option Value} {base : Heap} {CT CS CH : Addr}
abbrev sIsTup : Stmt := top 17
/-- a tuple of so many ints within bounds: True -/
def spIsTup : Sp := fun vs H Q _ => ∃ v ns lo hi, vs = [v, .int (ns.length : Nat), .int lo, .int hi] ∧ IT H v ns ∧ ns.length ≤ 1000 ∧ (∀ x ∈ ns, lo ≤ x ∧ x ≤ hi) ∧ ∀ H', Same H H' → Q (.bl true) H'
theorem scIsTup : FnScope ["value", "count", "least", "most", "one"] ["value", "count", "least", "most"] (defScope sIsTup) := ⟨rfl, rfl, rfl, by decide +kernel, rfl, by decide +kernel, by decide +kernel⟩
theorem ok_isTup (T : Txt K mg CT CS CH) (D : DefF K mg "is_tuple" sIsTup ["value", "count", "least", "most"]) (N : OkF P w K mg base 1 "is_number" ["value", "least", "most"] spBtw) :
    OkF P w K mg base 2 "is_tuple" ["value", "count", "least", "most"] spIsTup := by
  obtain ⟨f, fd, g, b, F⟩ := D
  obtain ⟨fN, fdN, gN, kN, bN, GN⟩ := N
  refine ⟨f, fd, g, F.kp, b, F.ok scIsTup (fun vs H Q E h => ?_) (fun cdv A outer s H vs Q E hr h => ?_)⟩
  · obtain ⟨v, ns, lo, hi, rfl, _⟩ := h
    rfl
  · obtain ⟨v, ns, lo, hi, rfl, ⟨a, rfl, ha⟩, hl, hb, q⟩ := h
    refine ⟨_, pss_one (ps_ret (pe_and (pe_callB call_isi (by rfl) T.isinstance bIsi (pa_cons (pv 0) (pa_cons (pe_bltn (v := .ty "tuple") (by rfl) T.tuple bTuple rfl) pa_nil)))
      (pe_and (pe_cmpR op_eq (pe_callB call_len_seq (by rfl) T.len PySem.boot_len (pa_cons (pv 0) pa_nil)) (pv 1) (nomark _))
      (pe_one (pe_callB (cr_all rfl) (by rfl) T.all bAll (pa_cons (pe_lc (own := [("one", 4)]) (g := gName 4) (tt := tYes) rfl scIsTup.nd (pi_tup (pv 0)) (blkOk_by (N := ["value", "count", "least", "most", "one"]) (sc := defScope sIsTup) (by decide +kernel))
        (fun _ _ _ _ _ => pg_name (i := 4) scIsTup.nd rfl (Or.inl rfl)) (fun _ _ _ _ _ => pts_nil) (fun _ _ _ _ _ => pe_call GN hr (by rfl) gN kN bN .nil pass0 (pa_cons (pv 4) (pa_cons (pv 2) (pa_cons (pv 3) pa_nil))))) pa_nil)))))), ?_⟩
    refine ⟨_, rfl, _, _, _, _, _, rfl, .ty _, .base (.tup ha), kTup, true, rfl, iteT ?_⟩
    refine ⟨_, rfl, _, _, rfl, .inr (SqT.of ha), _, rfl, rfl, _, rfl, ?_⟩
    rw [List.length_map, decide_eq_true rfl]
    refine iteT ?_
    refine ⟨_, rfl, a, rfl, ⟨_, SqT.of ha⟩, fun D hD => ?_⟩
    refine lc_mapR walk_tup (fun _ v _ => v = .bl true) hD ?_ (fun _ _ _ _ _ h => h) (fun H' s => SqT.of (s _ _ ha)) yAt_same ?_ ?_
    · rw [List.length_map, sizeLine_eq]
      omega
    · rintro i x H1 H1' NX lt s ⟨rfl, hx⟩ k
      rw [List.getElem?_map] at hx
      cases e : ns[i]? with
      | none => rw [e] at hx; cases hx
      | some z =>
        rw [e] at hx
        have ex : V.int z = x := Option.some.inj hx
        subst ex
        refine ⟨rfl, _, rfl, _, rfl, _, rfl, z, lo, hi, rfl, k _ _ (.refl _) ?_⟩
        obtain ⟨h1, h2⟩ := hb z (List.mem_of_getElem? e)
        rw [decide_eq_true h1, decide_eq_true h2]
        rfl
    · intro H1 acc s eD la r
      have ea := acc_eq (f := fun _ => V.bl true) la r
      refine ⟨D, (List.range (ns.map V.int).length).map fun _ => true, rfl, ?_, ?_⟩
      · rw [List.map_map]
        exact SqL.of (eD.trans (by rw [ea]; rfl))
      · have : ((List.range (ns.map V.int).length).map fun _ => true).all id = true := by simp
        rw [this]
        exact q _ s
abbrev sBackward : Stmt := top 18
def spBackward : Sp := fun vs H Q _ => ∃ v r, vs = [v] ∧ RowA H v r ∧ ∀ H' u, Same H H' → RowA H' u (bk r) → Q u H'
theorem scBackward : FnScope ["row", "move"] ["row"] (defScope sBackward) := ⟨rfl, rfl, rfl, by decide +kernel, rfl, by decide +kernel, by decide +kernel⟩
theorem ok_backward (T : Txt K mg CT CS CH) (D : DefF K mg "backward" sBackward ["row"]) : OkF P w K mg base 1 "backward" ["row"] spBackward := by
  obtain ⟨f, fd, g, b, F⟩ := D
  refine ⟨f, fd, g, F.kp, b, F.ok scBackward (fun vs H Q E h => ?_) (fun cdv A outer s H vs Q E hr h => ?_)⟩
  · obtain ⟨v, r, rfl, _⟩ := h
    rfl
  · obtain ⟨v, r, rfl, hR, q⟩ := h
    refine ⟨_, pss_cons (ps_if (pt_cmpR op_eq (pe_ix ix_tup (pv 0) pe_int (fun _ _ => rfl)) pe_str (nomark _))
        (pss_one (ps_ret (pe_tup (pa_cons pe_str (pa_cons (pe_ix ix_tup (pv 0) pe_int (fun _ _ => rfl)) (pa_cons (pe_ix ix_tup (pv 0) pe_int (fun _ _ => rfl)) (pa_cons (pe_ix ix_tup (pv 0) pe_int (fun _ _ => rfl)) (pa_cons (pe_ix ix_tup (pv 0) pe_int (fun _ _ => rfl)) pa_nil)))))))) pss_nil)
      (pss_one (ps_ret (pe_tup (pa_cons pe_str (pa_cons (pe_ix ix_tup (pv 0) pe_int (fun _ _ => rfl)) (pa_cons (pe_callTy call_tuple_of (by rfl) T.tuple bTuple (pa_cons
        (pe_lc (own := [("move", 1)]) (g := gName 1) (tt := tYes) rfl scBackward.nd (pi_tup (pe_ix ix_tup (pv 0) pe_int (fun _ _ => rfl))) (blkOk_by (N := ["row", "move"]) (sc := defScope sBackward) (by decide +kernel))
          (fun _ _ _ _ _ => pg_name (i := 1) scBackward.nd rfl (Or.inl rfl)) (fun _ _ _ _ _ => pts_nil) (fun _ _ _ _ _ => pe_un un_neg (pv 1))) pa_nil))
        (pa_cons (pe_ix ix_tup (pv 0) pe_int (fun _ _ => rfl)) pa_nil))))))), ?_⟩
    cases r with
    | wr q0 r0 r1 w0 w1 n =>
      obtain ⟨a, x, y, rfl, ha, hx, hy⟩ := hR
      have S := SqT.of (K := K) ha
      refine ⟨_, rfl, a, _, _, _, rfl, rfl, S, atI_nat (j := 0) rfl, rfl, _, rfl, ?_⟩
      rw [decide_eq_true rfl]
      refine iteT ?_
      refine ⟨_, rfl, a, _, _, _, rfl, rfl, S, atI_nat (j := 4) rfl, ?_⟩
      refine ⟨_, rfl, a, _, _, _, rfl, rfl, S, atI_nat (j := 3) rfl, ?_⟩
      refine ⟨_, rfl, a, _, _, _, rfl, rfl, S, atI_nat (j := 2) rfl, ?_⟩
      refine ⟨_, rfl, a, _, _, _, rfl, rfl, S, atI_nat (j := 1) rfl, ?_⟩
      refine ⟨(by show 5 ≤ sizeLine; decide), fun p hp => ?_⟩
      have s := nw (o := .tup [.str "write", .int n, y, x, .int q0]) hp
      exact q _ _ s ⟨p, y, x, rfl, upd_same, hy.ts (Same.ts s), hx.ts (Same.ts s)⟩
    | mv q0 d0 d1 n =>
      obtain ⟨a, x, rfl, ha, hx⟩ := hR
      have S := SqT.of (K := K) ha
      refine ⟨_, rfl, a, _, _, _, rfl, rfl, S, atI_nat (j := 0) rfl, rfl, _, rfl, ?_⟩
      rw [decide_eq_false (by intro z; exact absurd (V.str.inj z) (by decide +kernel))]
      refine iteF ?_
      refine ⟨_, rfl, a, _, _, _, rfl, rfl, S, atI_nat (j := 3) rfl, ?_⟩
      obtain ⟨c, rfl, hc⟩ := hx
      refine ⟨_, rfl, a, _, _, _, rfl, rfl, S, atI_nat (j := 2) rfl, c, rfl, ⟨_, SqT.of hc⟩, fun L hL => ?_⟩
      refine lc_mapR walk_tup (fun i v _ => v = .int (([-d0, -d1] : List Int).getD i 0)) hL (by show 2 ≤ sizeLine; decide) (fun _ _ _ _ _ h => h) (fun H' s => SqT.of (s _ _ hc)) yAt_same ?_ ?_
      · rintro i z H1 H1' NX hi s ⟨rfl, hz⟩ k
        have e2 : ([d0, d1].map V.int).length = 2 := rfl
        rw [e2] at hi
        match i, hi, hz with
        | 0, _, hz =>
          have ez : V.int d0 = z := Option.some.inj hz
          subst ez
          exact ⟨rfl, _, rfl, _, rfl, k _ _ (.refl _) rfl⟩
        | 1, _, hz =>
          have ez : V.int d1 = z := Option.some.inj hz
          subst ez
          exact ⟨rfl, _, rfl, _, rfl, k _ _ (.refl _) rfl⟩
      · intro H1 acc s eD la r
        have ea := acc_eq (f := fun i => V.int (([-d0, -d1] : List Int).getD i 0)) la r
        refine ⟨L, _, rfl, .inl ⟨SqL.of eD, fun t ht => ?_⟩⟩
        have s1 : Same H1 (upd H1 t (.tup acc)) := nw ht
        refine ⟨_, rfl, a, _, _, _, rfl, rfl, SqT.of (s1 _ _ (s _ _ ha)), atI_nat (j := 1) rfl, ?_⟩
        refine ⟨(by show 4 ≤ sizeLine; decide), fun p hp => ?_⟩
        have s2 := nw (o := .tup [.str "move", .int n, .ref t, .int q0]) hp
        refine q _ _ ((s.trans s1).trans s2) ⟨p, .ref t, rfl, upd_same, t, rfl, s2 _ _ ?_⟩
        rw [upd_same, ea]
        rfl
abbrev sMoved : Stmt := top 23
def spMoved : Sp := fun vs H Q _ => ∃ v t d, vs = [v, .int d] ∧ TpA H v t ∧ t.wt ≤ 1000000 ∧ ∀ H' u, Same H H' → TpA H' u (mvT d t) → Q u H'
theorem scMoved : FnScope ["tape", "move", "left", "mark", "right"] ["tape", "move"] (defScope sMoved) := ⟨rfl, rfl, rfl, by decide +kernel, rfl, by decide +kernel, by decide +kernel⟩
theorem ok_moved (T : Txt K mg CT CS CH) (D : DefF K mg "moved_tape" sMoved ["tape", "move"]) (N : OkF P w K mg base 1 "trimmed" ["marks"] spTrim) : OkF P w K mg base 2 "moved_tape" ["tape", "move"] spMoved := by
  obtain ⟨f, fd, g, b, F⟩ := D
  obtain ⟨fN, fdN, gN, kN, bN, GN⟩ := N
  refine ⟨f, fd, g, F.kp, b, F.ok scMoved (fun vs H Q E h => ?_) (fun cdv A outer s H vs Q E hr h => ?_)⟩
  · obtain ⟨v, t, d, rfl, _⟩ := h
    rfl
  · obtain ⟨v, t, d, rfl, hT, hw, q⟩ := h
    refine ⟨_, pss_cons (ps_asg (pv 0) (pg_tup (by rfl) (pgs_cons (pg_name (i := 2) scMoved.nd rfl (Or.inl rfl)) (pgs_cons (pg_name (i := 3) scMoved.nd rfl (Or.inl rfl)) (pgs_cons (pg_name (i := 4) scMoved.nd rfl (Or.inl rfl)) pgs_nil)))))
      (pss_cons (ps_if (pt_cmpR op_eq (pv 1) pe_int (nomark _))
        (pss_one (ps_ret (pe_tup (pa_cons (pe_call GN hr (by rfl) gN kN bN .nil pass0 (pa_cons (pe_op op_catA (pe_tup (pa_cons (pv 3) pa_nil)) (pv 2)) pa_nil))
          (pa_cons (pe_ix ix_tup (pe_op op_catA (pv 4) (pe_tup (pa_cons pe_int pa_nil))) pe_int (fun _ _ => rfl)) (pa_cons (pe_slice sl_tupA (pv 4) (po_some pe_int) po_none) pa_nil)))))) pss_nil)
      (pss_cons (ps_if (pt_cmpR op_eq (pv 1) (pe_un un_neg pe_int) (nomark _))
        (pss_one (ps_ret (pe_tup (pa_cons (pe_slice sl_tupA (pv 2) (po_some pe_int) po_none) (pa_cons (pe_ix ix_tup (pe_op op_catA (pv 2) (pe_tup (pa_cons pe_int pa_nil))) pe_int (fun _ _ => rfl))
          (pa_cons (pe_call GN hr (by rfl) gN kN bN .nil pass0 (pa_cons (pe_op op_catA (pe_tup (pa_cons (pv 3) pa_nil)) (pv 4)) pa_nil)) pa_nil)))))) pss_nil)
      (pss_one (ps_ret (pv 0))))), ?_⟩
    obtain ⟨l, m, r⟩ := t
    obtain ⟨a, x, y, rfl, ha, hx, hy⟩ := hT
    have hw : l.length + r.length ≤ 1000000 := hw
    refine ⟨_, rfl, a, _, rfl, SqT.of ha, rfl, _, _, rfl, _, _, rfl, _, _, rfl, rfl, ?_⟩
    refine ⟨_, rfl, rfl, _, rfl, ite2 (fun c => ?_) (fun c => ?_)⟩
    · have ed : d = 1 := V.int.inj (of_decide_eq_true c)
      subst ed
      rw [mvT_1] at q
      refine ⟨_, rfl, (by show 1 ≤ sizeLine; decide), fun p hp => ⟨_, rfl, ?_⟩⟩
      have s1 := nw (o := .tup [.int m]) hp
      refine rd_cat (ns := [m]) ⟨p, rfl, upd_same⟩ (hx.ts (Same.ts s1)) (by simp; omega) fun H2 u s2 hu => ?_
      refine ⟨u, _, rfl, hu, fun H3 u3 s3 h3 => ?_⟩
      refine ⟨_, rfl, (by show 1 ≤ sizeLine; decide), fun p2 hp2 => ?_⟩
      have s4 := nw (o := .tup [.int 0]) hp2
      have s04 := ((s1.trans s2).trans s3).trans s4
      refine rd_cat (hy.ts (Same.ts s04)) (ms := [0]) ⟨p2, rfl, upd_same⟩ (by simp; omega) fun H5 u5 s5 h5 => ?_
      refine tc (rd_head h5 ?_)
      refine ⟨_, rfl, rd_sl1 (rd_tail (hy.ts (Same.ts (s04.trans s5))) fun H6 u6 s6 h6 => ?_)⟩
      refine ⟨(by show 3 ≤ sizeLine; decide), fun p7 hp7 => ?_⟩
      have s7 := nw (o := .tup [u3, .int (r.headD 0), u6]) hp7
      exact q _ _ (((s04.trans s5).trans s6).trans s7) ⟨p7, _, _, rfl, upd_same, h3.ts (Same.ts (((s4.trans s5).trans s6).trans s7)), h6.ts (Same.ts s7)⟩
    · refine ⟨_, rfl, _, rfl, rfl, _, rfl, ite2 (fun c2 => ?_) (fun c2 => ?_)⟩
      · have ed : d = -1 := V.int.inj (of_decide_eq_true c2)
        subst ed
        rw [mvT_m] at q
        refine ⟨_, rfl, rd_sl1 (rd_tail hx fun H1 u1 s1 h1 => ?_)⟩
        refine ⟨_, rfl, (by show 1 ≤ sizeLine; decide), fun p2 hp2 => ?_⟩
        have s2 := nw (o := .tup [.int 0]) hp2
        refine rd_cat (hx.ts (Same.ts (s1.trans s2))) (ms := [0]) ⟨p2, rfl, upd_same⟩ (by simp; omega) fun H3 u3 s3 h3 => ?_
        refine tc (rd_head h3 ?_)
        refine ⟨_, rfl, (by show 1 ≤ sizeLine; decide), fun p4 hp4 => ⟨_, rfl, ?_⟩⟩
        have s4 := nw (o := .tup [.int m]) hp4
        have s04 := ((s1.trans s2).trans s3).trans s4
        refine rd_cat (ns := [m]) ⟨p4, rfl, upd_same⟩ (hy.ts (Same.ts s04)) (by simp; omega) fun H5 u5 s5 h5 => ?_
        refine ⟨u5, _, rfl, h5, fun H6 u6 s6 h6 => ?_⟩
        refine ⟨(by show 3 ≤ sizeLine; decide), fun p7 hp7 => ?_⟩
        have s7 := nw (o := .tup [u1, .int (l.headD 0), u6]) hp7
        exact q _ _ (((s04.trans s5).trans s6).trans s7) ⟨p7, _, _, rfl, upd_same, h1.ts (Same.ts ((((((s2.trans s3).trans s4).trans s5).trans s6).trans s7))), h6.ts (Same.ts s7)⟩
      · have e1 : d ≠ 1 := fun e => c (decide_eq_true (by rw [e]))
        have e2 : d ≠ -1 := fun e => c2 (decide_eq_true (by rw [e]))
        have em : mvT d ⟨l, m, r⟩ = ⟨l, m, r⟩ := by
          unfold mvT
          rw [if_neg e1, if_neg e2]
        rw [em] at q
        exact ⟨_, rfl, q _ _ (.refl _) ⟨a, x, y, rfl, ha, hx, hy⟩⟩
end
end Bs

/-! data compared; the class Tape -/
namespace Bs
open PySem L2
/-! ### data of ints and tuples, compared with itself -/
def shp (k : Nat) (d : PyData) : Prop := d.canLay0 = true ∧ d.depth ≤ k
theorem shp_int (i : Int) : shp 0 (.int i) := ⟨by simp [PyData.canLay0], by simp [PyData.depth]⟩
theorem shp_non : shp 0 .none := ⟨by simp [PyData.canLay0], by simp [PyData.depth]⟩
theorem shp_le {k j : Nat} {d : PyData} (h : shp k d) (l : k ≤ j) : shp j d := ⟨h.1, Nat.le_trans h.2 l⟩
theorem shp_tup {k : Nat} {xs : List PyData} (h : ∀ x ∈ xs, shp k x) : shp (k + 1) (.tuple xs) := by
  have a : ∀ xs : List PyData, (∀ x ∈ xs, shp k x) → PyData.canLayAll0 xs = true ∧ PyData.depthAll xs ≤ k := by
    intro xs
    induction xs with
    | nil => intro _; exact ⟨by simp [PyData.canLayAll0], by simp [PyData.depthAll]⟩
    | cons x xs ih =>
      intro h
      obtain ⟨i1, i2⟩ := ih fun y hy => h y (List.mem_cons_of_mem _ hy)
      obtain ⟨j1, j2⟩ := h x List.mem_cons_self
      refine ⟨by simp [PyData.canLayAll0, i1, j1], ?_⟩
      simp only [PyData.depthAll]
      exact Nat.max_le.mpr ⟨j2, i2⟩
  obtain ⟨h1, h2⟩ := a xs h
  refine ⟨by simp only [PyData.canLay0]; exact h1, ?_⟩
  simp only [PyData.depth]
  omega
theorem shp_I (ns : List Int) : shp 1 (dI ns) := shp_tup fun x hx => by
  obtain ⟨n, _, e⟩ := List.mem_map.mp hx
  rw [← e]
  exact shp_int n
theorem shp_P (x : Int × Int) : shp 1 (dP x) := shp_tup fun y hy => by
  simp only [List.mem_cons, List.not_mem_nil, or_false] at hy
  rcases hy with e | e <;> subst e <;> exact shp_int _
theorem shp_past (p : Past) : shp 2 (dPast p) := shp_tup fun x hx => by
  obtain ⟨n, _, e⟩ := List.mem_map.mp hx
  rw [← e]
  exact shp_P n
theorem shp_T (t : Tp) : shp 2 (dT t) := shp_tup fun x hx => by
  simp only [List.mem_cons, List.not_mem_nil, or_false] at hx
  rcases hx with e | e | e <;> subst e
  · exact shp_I _
  · exact shp_le (shp_int _) (by decide)
  · exact shp_I _
theorem shp_L (c : LC) : shp 4 (dL c) := shp_tup fun x hx => by
  simp only [List.mem_cons, List.not_mem_nil, or_false] at hx
  rcases hx with e | e <;> subst e
  · exact shp_le (shp_int _) (by decide)
  · refine shp_tup fun y hy => ?_
    simp only [List.mem_cons, List.not_mem_nil, or_false] at hy
    rcases hy with e | e <;> subst e <;> exact shp_T _
theorem shp_U (c : UC) : shp 2 (dU c) := shp_tup fun x hx => by
  simp only [List.mem_cons, List.not_mem_nil, or_false] at hx
  rcases hx with e | e | e | e <;> subst e
  · exact shp_le (shp_int _) (by decide)
  · exact shp_I _
  · exact shp_le (shp_int _) (by decide)
  · exact shp_I _
theorem shaped_of {k : Nat} {d : PyData} (h : shp k d) (l : k ≤ 64) : SeqAt.shaped d = true := by
  unfold SeqAt.shaped
  rw [h.1, decide_eq_true (Nat.le_trans h.2 l)]
  rfl
section
variable {K : PySem.W.Frag} {H : Hp} {Q : VK}
theorem rd_ne {k : Nat} {x y : V} {d : PyData} (hx : Dp K H x d) (hy : Dp K H y d) (s : shp k d) (l : k ≤ 64) (q : Q (.bl false) H) : rNeD K x y H Q := by
  refine ⟨d, d, hx, hy, shaped_of s l, shaped_of s l, ?_⟩
  rw [SeqAt.eqv_refl d s.1]
  exact q
theorem rd_eq {k : Nat} {x y : V} {d : PyData} (hx : Dp K H x d) (hy : Dp K H y d) (s : shp k d) (l : k ≤ 64) (q : Q (.bl true) H) : rEqD K x y H Q := by
  refine ⟨d, d, hx, hy, shaped_of s l, shaped_of s l, ?_⟩
  rw [SeqAt.eqv_refl d s.1]
  exact q
end
/-! ### attributes -/
/-- the instance at p of the class at C has the attribute f -/
def Fld (C : Addr) (H : Hp) (p : Addr) (f : Str) (v : V) : Prop := ∃ dx fs, H p = some (.ins C dx fs) ∧ fs.lookup f = some v
def NoF (C : Addr) (H : Hp) (p : Addr) (f : Str) : Prop := ∃ dx fs, H p = some (.ins C dx fs) ∧ fs.lookup f = none
theorem Fld.same {C : Addr} {H H' : Hp} {p : Addr} {f : Str} {v : V} (s : Same H H') (h : Fld C H p f v) : Fld C H' p f v := let ⟨dx, fs, h1, h2⟩ := h; ⟨dx, fs, s _ _ h1, h2⟩
theorem NoF.same {C : Addr} {H H' : Hp} {p : Addr} {f : Str} (s : Same H H') (h : NoF C H p f) : NoF C H' p f := let ⟨dx, fs, h1, h2⟩ := h; ⟨dx, fs, s _ _ h1, h2⟩
/-! ### the class Tape -/
theorem tr1 : ¬ (("states" : Str) = "marks") := by decide +kernel
theorem tr2 : ¬ (("_rows" : Str) = "marks") := by decide +kernel
theorem tr3 : ¬ (("_rows" : Str) = "states") := by decide +kernel
/-- a Tape of m marks, s states; its list of rows at rl -/
structure TapeO (CT : Addr) (H : Hp) (p : Addr) (m s : Int) (xs : List V) : Prop where
  ex : ∃ dx fs rl, H p = some (.ins CT dx fs) ∧ fs.lookup ("marks" : Str) = some (.int m) ∧ fs.lookup ("states" : Str) = some (.int s) ∧ fs.lookup ("_rows" : Str) = some (.ref rl) ∧
    (∀ g : Str, ¬ g = "marks" → ¬ g = "states" → ¬ g = "_rows" → fs.lookup g = none) ∧ H rl = some (.lst xs)
namespace TapeO
variable {CT : Addr} {H H' : Hp} {p : Addr} {m s : Int} {xs : List V}
theorem same (k : Same H H') (t : TapeO CT H p m s xs) : TapeO CT H' p m s xs := by
  obtain ⟨dx, fs, rl, h1, h2, h3, h4, h5, h6⟩ := t.ex
  exact ⟨dx, fs, rl, k _ _ h1, h2, h3, h4, h5, k _ _ h6⟩
theorem marks (t : TapeO CT H p m s xs) : Fld CT H p "marks" (.int m) := by
  obtain ⟨dx, fs, rl, h1, h2, h3, h4, h5, h6⟩ := t.ex
  exact ⟨dx, fs, h1, h2⟩
theorem states (t : TapeO CT H p m s xs) : Fld CT H p "states" (.int s) := by
  obtain ⟨dx, fs, rl, h1, h2, h3, h4, h5, h6⟩ := t.ex
  exact ⟨dx, fs, h1, h3⟩
theorem rows (t : TapeO CT H p m s xs) : ∃ rl, Fld CT H p "_rows" (.ref rl) ∧ H rl = some (.lst xs) := by
  obtain ⟨dx, fs, rl, h1, h2, h3, h4, h5, h6⟩ := t.ex
  exact ⟨rl, ⟨dx, fs, h1, h4⟩, h6⟩
theorem no (t : TapeO CT H p m s xs) {g : Str} (a : ¬ g = "marks") (b : ¬ g = "states") (c : ¬ g = "_rows") : ∃ dx fs, H p = some (.ins CT dx fs) ∧ fs.lookup g = none := by
  obtain ⟨dx, fs, rl, h1, h2, h3, h4, h5, h6⟩ := t.ex
  exact ⟨dx, fs, h1, h5 g a b c⟩
end TapeO
section
variable {P : Program} {w : World} {K : PySem.W.Frag} {mg : Str → Option Value} {base : Heap} {CT CS CH : Addr}
abbrev sTIsRow : Stmt := inClass (top 10) 1
def spTIsRow (CT : Addr) : Sp := fun vs H Q _ => ∃ p v b d t m s, vs = [.ref p, v] ∧ URA H v (some (b, d, t)) ∧ Fld CT H p "marks" (.int m) ∧ Fld CT H p "states" (.int s) ∧ (0 ≤ b ∧ b < m) ∧ (d = 1 ∨ d = -1) ∧ (0 ≤ t ∧ t < s) ∧ Q (.bl true) H
theorem scTIsRow : FnScope ["self", "row"] ["self", "row"] (defScope sTIsRow) := ⟨rfl, rfl, rfl, by decide +kernel, rfl, by decide +kernel, by decide +kernel⟩
theorem ok_tIsRow (T : Txt K mg CT CS CH) (D : DefM K CT "_is_row" "Tape._is_row" sTIsRow ["self", "row"]) (N : OkF P w K mg base 1 "is_integer" ["value", "least", "most"] spBtw) : OkM P w K mg base 2 CT "_is_row" ["self", "row"] (spTIsRow CT) := by
  obtain ⟨f, fd, g, b, F⟩ := D
  obtain ⟨fN, fdN, gN, kN, bN, GN⟩ := N
  refine ⟨f, fd, g, b, F.ok scTIsRow (fun vs H Q E h => ?_) (fun cdv A outer s H vs Q E hr h => ?_)⟩
  · obtain ⟨p, v, b, d, t, m, s, rfl, _⟩ := h
    rfl
  · obtain ⟨p, v, b, d, t, m, s, rfl, ⟨a, rfl, ha⟩, ⟨dx, fs, hp, lm⟩, ⟨dx', fs', hp', ls⟩, hb, hd, ht, q⟩ := h
    refine ⟨_, pss_cons (ps_if (PW.pt (pw_or (pt_not (pt_val (pe_callB call_isi (by rfl) T.isinstance bIsi (pa_cons (pv 1) (pa_cons (pe_bltn (v := .ty "tuple") (by rfl) T.tuple bTuple rfl) pa_nil)))))
          (pw_or1 (pt_cmpR op_ne (pe_callB call_len_seq (by rfl) T.len PySem.boot_len (pa_cons (pv 1) pa_nil)) pe_int (nomark _))))) (pss_one (ps_ret pe_bl)) pss_nil)
      (pss_cons (ps_if (PW.pt (pw_or (pt_not (pt_val (pe_call GN hr (by rfl) gN kN bN .nil pass0 (pa_cons (pe_ix ix_tup (pv 1) pe_int (fun _ _ => rfl)) (pa_cons (pe_un un_neg pe_int) (pa_cons pe_int pa_nil))))))
          (pw_or1 (pt_cmpR op_eq (pe_ix ix_tup (pv 1) pe_int (fun _ _ => rfl)) pe_int (nomark _))))) (pss_one (ps_ret pe_bl)) pss_nil)
      (pss_one (ps_ret (pe_and (pe_call GN hr (by rfl) gN kN bN .nil pass0 (pa_cons (pe_ix ix_tup (pv 1) pe_int (fun _ _ => rfl)) (pa_cons pe_int (pa_cons (pe_op op_sub (pe_fld (pv 0) rfl) pe_int) pa_nil))))
        (pe_one (pe_call GN hr (by rfl) gN kN bN .nil pass0 (pa_cons (pe_ix ix_tup (pv 1) pe_int (fun _ _ => rfl)) (pa_cons pe_int (pa_cons (pe_op op_sub (pe_fld (pv 0) rfl) pe_int) pa_nil))))))))), ?_⟩
    have S := SqT.of (K := K) ha
    refine ⟨_, rfl, _, _, _, _, _, rfl, .ty _, .base (.tup ha), kTup, true, rfl, iteF ?_⟩
    refine ⟨_, rfl, _, _, rfl, .inr S, rfl, _, rfl, iteF ?_⟩
    refine ⟨_, rfl, a, _, _, _, rfl, rfl, S, atI_nat (j := 1) rfl, _, rfl, _, _, _, rfl, true, ?_, iteF ?_⟩
    · have h1 : (-1 : Int) ≤ d := by omega
      have h2 : d ≤ 1 := by omega
      rw [decide_eq_true h1, decide_eq_true h2]
      rfl
    refine ⟨_, rfl, a, _, _, _, rfl, rfl, S, atI_nat (j := 1) rfl, rfl, _, rfl, ?_⟩
    rw [decide_eq_false (show ¬ V.int d = V.int 0 from fun e => by have := V.int.inj e; omega)]
    refine iteF ?_
    refine ⟨_, rfl, a, _, _, _, rfl, rfl, S, atI_nat (j := 0) rfl, _, rfl, p, CT, dx, fs, _, rfl, hp, T.cT, T.tMarks, lm, _, _, rfl, rfl, _, _, _, rfl, true, ?_, iteT ?_⟩
    · rw [decide_eq_true hb.1, decide_eq_true (show b ≤ m - 1 by omega)]
      rfl
    refine ⟨_, rfl, a, _, _, _, rfl, rfl, S, atI_nat (j := 2) rfl, _, rfl, p, CT, dx', fs', _, rfl, hp', T.cT, T.tStates, ls, _, _, rfl, rfl, _, _, _, rfl, ?_⟩
    rw [decide_eq_true ht.1, decide_eq_true (show t ≤ s - 1 by omega)]
    exact q
abbrev sTInit : Stmt := inClass (top 10) 0
def spTInit (CT : Addr) : Sp := fun vs H Q _ => ∃ (p dx a : Addr) (m s : Nat) (xs : List V) (R : List URow), vs = [.ref p, .int m, .int s, .ref a] ∧ H p = some (.ins CT dx []) ∧ H a = some (.lst xs) ∧ Al (URA H) xs R ∧ UOk m s R ∧ 2 ≤ m ∧ m ≤ 8 ∧ 1 ≤ s ∧ s ≤ 40 ∧
  ∀ H', (∀ b o, b ≠ p → H b = some o → H' b = some o) → TapeO CT H' p m s xs → Q .non H'
theorem scTInit : FnScope ["self", "marks", "states", "rows", "row"] ["self", "marks", "states", "rows"] (defScope sTInit) := ⟨rfl, rfl, rfl, by decide +kernel, rfl, by decide +kernel, by decide +kernel⟩
theorem ok_tInit (T : Txt K mg CT CS CH) (D : DefI K CT "Tape.__init__" sTInit ["self", "marks", "states", "rows"]) (N : OkF P w K mg base 1 "is_integer" ["value", "least", "most"] spBtw)
    (M : OkM P w K mg base 2 CT "_is_row" ["self", "row"] (spTIsRow CT)) : OkI P w K mg base 3 CT ["self", "marks", "states", "rows"] (spTInit CT) := by
  obtain ⟨f, fd, g, b, F⟩ := D
  obtain ⟨fN, fdN, gN, kN, bN, GN⟩ := N
  obtain ⟨fM, fdM, mM, bM, GM⟩ := M
  obtain ⟨t1, e1⟩ := T.mmT
  obtain ⟨t2, e2⟩ := T.msT
  refine ⟨f, fd, g, b, F.ok scTInit (fun vs H Q E h => ?_) (fun cdv A outer s0 H vs Q E hr h => ?_)⟩
  · obtain ⟨p, dx, a, m, s, xs, R, rfl, _⟩ := h
    rfl
  · obtain ⟨p, dx, a, m, s, xs, R, rfl, hp, ha, hR, u, m2, m8, s1, s40, q⟩ := h
    have hr1 : Room 1 _ := hr.mono (by decide)
    refine ⟨_, pss_cons (ps_if (PW.pt (pw_or (pt_not (pt_val (pe_call GN hr1 (by rfl) gN kN bN .nil pass0 (pa_cons (pv 1) (pa_cons pe_int (pa_cons (pe_glob (v := .int 8) (by rfl) e1 ⟨_, rfl⟩) pa_nil))))))
          (pw_or1 (pt_not (pt_val (pe_call GN hr1 (by rfl) gN kN bN .nil pass0 (pa_cons (pv 2) (pa_cons pe_int (pa_cons (pe_glob (v := .int 40) (by rfl) e2 ⟨_, rfl⟩) pa_nil))))))))) pss_never pss_nil)
      (pss_cons (ps_if (pt_cmpR op_ne (pe_callB call_len_seq (by rfl) T.len PySem.boot_len (pa_cons (pv 3) pa_nil)) (pe_op op_mul (pv 1) (pv 2)) (nomark _)) pss_never pss_nil)
      (pss_cons (ps_fld (pv 0) (pv 1) rfl)
      (pss_cons (ps_fld (pv 0) (pv 2) rfl)
      (pss_cons (ps_for PassesOwn.never rfl (pi_list (pv 3)) (pg_name (i := 4) scTInit.nd rfl (Or.inl rfl))
        (pss_one (ps_if (PW.pt (pw_and (pt_cmpR op_notN (pv 4) pe_non (nomark _)) (pw_and1 (pt_not (pt_val (pe_meth (pv 0) T.cT mM GM hr bM .nil pass0 (pa_cons (pv 4) pa_nil))))))) pss_never pss_nil)))
      (pss_one (ps_fld (pv 0) (pe_callTy call_list_of (by rfl) T.list bList (pa_cons (pv 3) pa_nil)) rfl)))))), ?_⟩
    have npa : p ≠ a := ne_of hp ha (by intro z; cases z)
    refine ⟨_, rfl, _, _, _, rfl, true, ?_, iteF ?_⟩
    · rw [decide_eq_true (show (2 : Int) ≤ m by omega), decide_eq_true (show (m : Int) ≤ 8 by omega)]
      rfl
    refine ⟨_, rfl, _, _, _, rfl, true, ?_, iteF ?_⟩
    · rw [decide_eq_true (show (1 : Int) ≤ s by omega), decide_eq_true (show (s : Int) ≤ 40 by omega)]
      rfl
    have el : xs.length = m * s := hR.1.trans u.len
    refine ⟨_, rfl, _, _, rfl, .inl (SqL.of ha), _, rfl, _, rfl, _, _, rfl, rfl, .inl ⟨by omega, by omega⟩, rfl, _, rfl, ?_⟩
    rw [decide_eq_true (by rw [el]; exact congrArg V.int (Int.natCast_mul m s))]
    refine iteF ?_
    refine ⟨_, rfl, _, rfl, p, CT, dx, [], rfl, hp, T.cT, T.tMarks, (by show 0 < 1000; decide), ?_⟩
    refine ⟨_, rfl, _, rfl, p, CT, dx, _, rfl, upd_same, T.cT, T.tStates, (by show 1 < 1000; decide), ?_⟩
    rw [upd_upd]
    have hp2 : upd H p (.ins CT dx (putF "states" (.int s) (putF "marks" (.int m) []))) p = some (.ins CT dx (putF "states" (.int s) (putF "marks" (.int m) []))) := upd_same
    have ts : TS H (upd H p (.ins CT dx (putF "states" (.int s) (putF "marks" (.int m) [])))) := .up fun ys e => by rw [hp] at e; cases e
    have ha2 : upd H p (.ins CT dx (putF "states" (.int s) (putF "marks" (.int m) []))) a = some (.lst xs) := by rw [upd_ne npa.symm]; exact ha
    refine ⟨_, rfl, a, rfl, ⟨_, SqL.of ha2⟩, for_list (K := K) (a := a) (xs := xs) (fun i σ H' => H' = upd H p (.ins CT dx (putF "states" (.int s) (putF "marks" (.int m) []))) ∧ ∃ v, σ = [some (.ref p), some (.int m), some (.int s), some (.ref a), v])
      ⟨rfl, none, rfl⟩ (fun i σ H' _ h => by rw [h.1]; exact SqL.of ha2) ?_ ?_⟩
    · rintro i x σ H' hx ⟨rfl, v, rfl⟩
      obtain ⟨o, ho, hu⟩ := hR.of hx
      have hu := URA.ts ts hu
      refine ⟨_, rfl, rfl, _, rfl, ?_⟩
      cases o with
      | none =>
        have hu : x = .non := hu
        subst hu
        rw [decide_eq_true rfl]
        exact iteF (iteF ⟨rfl, _, rfl⟩)
      | some r =>
        obtain ⟨bb, d, t⟩ := r
        obtain ⟨c, rfl, hc⟩ := id hu
        rw [decide_eq_false (by intro z; cases z)]
        refine iteT ?_
        obtain ⟨o1, o2, o3⟩ := u.ok i bb d t ho
        refine ⟨_, rfl, p, dx, _, rfl, hp2, ?_, _, rfl, ?_⟩
        · rw [lookup_putF, if_neg (by decide +kernel), lookup_putF, if_neg (by decide +kernel)]
          rfl
        · refine ⟨p, _, bb, d, t, m, s, rfl, hu, ⟨dx, _, hp2, ?_⟩, ⟨dx, _, hp2, ?_⟩, o1, o2, o3, true, rfl, iteF ⟨rfl, _, rfl⟩⟩
          · rw [lookup_putF, if_neg (by decide +kernel), lookup_putF, if_pos rfl]
          · rw [lookup_putF, if_pos rfl]
    · rintro σ H' ⟨rfl, v, rfl⟩
      refine ⟨_, rfl, a, xs, rfl, .inl (SqL.of ha2), fun l hl => ?_⟩
      have npl : p ≠ l := ne_of_none hp2 hl
      refine ⟨_, rfl, p, CT, dx, _, rfl, (by rw [upd_ne npl]; exact hp2), T.cT, T.tRows, (by show 2 < 1000; decide), ?_⟩
      refine q _ (fun b o nb e => ?_) ⟨dx, _, l, upd_same, ?_, ?_, ?_, fun g g1 g2 g3 => ?_, ?_⟩
      · have e2 : upd H p (.ins CT dx (putF "states" (.int s) (putF "marks" (.int m) []))) b = some o := by rw [upd_ne nb]; exact e
        rw [upd_ne nb, upd_ne (ne_of_none e2 hl)]
        exact e2
      · rw [lookup_putF, if_neg (by decide +kernel), lookup_putF, if_neg (by decide +kernel), lookup_putF, if_pos rfl]
      · rw [lookup_putF, if_neg (by decide +kernel), lookup_putF, if_pos rfl]
      · rw [lookup_putF, if_pos rfl]
      · rw [lookup_putF, if_neg g3, lookup_putF, if_neg g2, lookup_putF, if_neg g1]
        rfl
      · rw [upd_ne npl.symm, upd_same]
end
end Bs

/-! Tape.row, Tape._is_side, Tape.is_configuration -/
namespace Bs
open PySem L2
section
variable {P : Program} {w : World} {K : PySem.W.Frag} {mg : Str → Option Value} {base : Heap} {CT CS CH : Addr}
abbrev sTRow : Stmt := inClass (top 10) 3
def spTRow (CT : Addr) : Sp := fun vs H Q _ => ∃ (p : Addr) (m s q a : Nat) (xs : List V) (v : V), vs = [.ref p, .int q, .int a] ∧ TapeO CT H p m s xs ∧ s ≤ 40 ∧ q < s ∧ a < m ∧ xs[m * q + a]? = some v ∧ Q v H
theorem scTRow : FnScope ["self", "state", "mark"] ["self", "state", "mark"] (defScope sTRow) := ⟨rfl, rfl, rfl, by decide +kernel, rfl, by decide +kernel, by decide +kernel⟩
theorem ok_tRow (T : Txt K mg CT CS CH) (D : DefM K CT "row" "Tape.row" sTRow ["self", "state", "mark"]) (N : OkF P w K mg base 1 "is_integer" ["value", "least", "most"] spBtw) : OkM P w K mg base 2 CT "row" ["self", "state", "mark"] (spTRow CT) := by
  obtain ⟨f, fd, g, b, F⟩ := D
  obtain ⟨fN, fdN, gN, kN, bN, GN⟩ := N
  refine ⟨f, fd, g, b, F.ok scTRow (fun vs H Q E h => ?_) (fun cdv A outer s0 H vs Q E hr h => ?_)⟩
  · obtain ⟨p, m, s, q, a, xs, v, rfl, _⟩ := h
    rfl
  · obtain ⟨p, m, s, q, a, xs, v, rfl, O, s40, hq, ha, hx, k⟩ := h
    refine ⟨_, pss_cons (ps_if (PW.pt (pw_or (pt_not (pt_val (pe_call GN hr (by rfl) gN kN bN .nil pass0 (pa_cons (pv 1) (pa_cons pe_int (pa_cons (pe_op op_sub (pe_fld (pv 0) rfl) pe_int) pa_nil))))))
          (pw_or1 (pt_not (pt_val (pe_call GN hr (by rfl) gN kN bN .nil pass0 (pa_cons (pv 2) (pa_cons pe_int (pa_cons (pe_op op_sub (pe_fld (pv 0) rfl) pe_int) pa_nil))))))))) pss_never pss_nil)
      (pss_one (ps_ret (pe_ix ix_list (pe_fld (pv 0) rfl) (pe_op op_add (pe_op op_mul (pv 1) (pe_fld (pv 0) rfl)) (pv 2)) (fun _ _ => rfl)))), ?_⟩
    obtain ⟨dx, fs, rl, h1, h2, h3, h4, h5, h6⟩ := O.ex
    refine ⟨_, rfl, _, rfl, p, CT, dx, fs, _, rfl, h1, T.cT, T.tStates, h3, _, _, rfl, rfl, _, _, _, rfl, true, ?_, iteF ?_⟩
    · rw [decide_eq_true (show (0 : Int) ≤ q by omega), decide_eq_true (show (q : Int) ≤ (s : Int) - 1 by omega)]
      rfl
    refine ⟨_, rfl, _, rfl, p, CT, dx, fs, _, rfl, h1, T.cT, T.tMarks, h2, _, _, rfl, rfl, _, _, _, rfl, true, ?_, iteF ?_⟩
    · rw [decide_eq_true (show (0 : Int) ≤ a by omega), decide_eq_true (show (a : Int) ≤ (m : Int) - 1 by omega)]
      rfl
    refine ⟨_, rfl, p, CT, dx, fs, _, rfl, h1, T.cT, T.tRows, h4, _, rfl, _, rfl, p, CT, dx, fs, _, rfl, h1, T.cT, T.tMarks, h2, _, _, rfl, rfl, .inl ⟨by omega, by omega⟩, _, rfl, _, _, rfl, rfl, rl, xs, _, v, rfl, rfl, SqL.of h6, ?_, k⟩
    have e : ((q : Int) * (m : Int) + (a : Int)) = ((m * q + a : Nat) : Int) := by
      rw [Int.mul_comm]
      rfl
    rw [e]
    exact atI_nat hx
abbrev sTSide : Stmt := inClass (top 10) 4
def spTSide (CT : Addr) : Sp := fun vs H Q _ => ∃ (p : Addr) (m : Nat) (v : V) (ns : List Int), vs = [.ref p, v] ∧ Fld CT H p "marks" (.int m) ∧ IT H v ns ∧ ns.length ≤ 1000000 ∧ trim ns = ns ∧ (∀ x ∈ ns, InM m x) ∧ ∀ H', Same H H' → Q (.bl true) H'
theorem scTSide : FnScope ["self", "value", "mark"] ["self", "value"] (defScope sTSide) := ⟨rfl, rfl, rfl, by decide +kernel, rfl, by decide +kernel, by decide +kernel⟩
theorem ok_tSide (T : Txt K mg CT CS CH) (D : DefM K CT "_is_side" "Tape._is_side" sTSide ["self", "value"]) (N : OkF P w K mg base 1 "is_integer" ["value", "least", "most"] spBtw) (M : OkF P w K mg base 1 "trimmed" ["marks"] spTrim) :
    OkM P w K mg base 2 CT "_is_side" ["self", "value"] (spTSide CT) := by
  obtain ⟨f, fd, g, b, F⟩ := D
  obtain ⟨fN, fdN, gN, kN, bN, GN⟩ := N
  obtain ⟨fM, fdM, gM, kM, bM, GM⟩ := M
  refine ⟨f, fd, g, b, F.ok scTSide (fun vs H Q E h => ?_) (fun cdv A outer s0 H vs Q E hr h => ?_)⟩
  · obtain ⟨p, m, v, ns, rfl, _⟩ := h
    rfl
  · obtain ⟨p, m, v, ns, rfl, ⟨dx, fs, hp, lm⟩, ⟨a, rfl, ha⟩, hl, ht, hi, q⟩ := h
    refine ⟨_, pss_cons (ps_if (PW.pt (pw_or (pt_not (pt_val (pe_callB call_isi (by rfl) T.isinstance bIsi (pa_cons (pv 1) (pa_cons (pe_bltn (v := .ty "tuple") (by rfl) T.tuple bTuple rfl) pa_nil)))))
          (pw_or1 (pt_cmpR (by exact op_neD hr.units) (pv 1) (pe_call GM hr (by rfl) gM kM bM .nil pass0 (pa_cons (pv 1) pa_nil)) (nomark _))))) (pss_one (ps_ret pe_bl)) pss_nil)
      (pss_one (ps_ret (pe_callB (cr_all rfl) (by rfl) T.all bAll (pa_cons (pe_lc (own := [("mark", 2)]) (g := gName 2) (tt := tYes) (te := tCall spBtw [] E0 (tCons (tVar 2) (tCons (tC (.int 0)) (tCons (tOp (rI0 fun i j => .int (i - j)) (tFld K (tVar 0) "marks") (tC (.int 1))) tNil)))) rfl scTSide.nd (pi_tup (pv 1)) (blkOk_by (N := ["self", "value", "mark"]) (sc := defScope sTSide) (by decide +kernel))
        (fun _ _ _ _ _ => pg_name (i := 2) scTSide.nd rfl (Or.inl rfl)) (fun _ _ _ _ _ => pts_nil) (fun _ _ _ _ _ => pe_call GN hr (by rfl) gN kN bN .nil pass0 (pa_cons (pv 2) (pa_cons pe_int (pa_cons (pe_op op_sub (pe_fld (pv 0) (by rfl)) pe_int) pa_nil))))) pa_nil)))), ?_⟩
    refine ⟨_, rfl, _, _, _, _, _, rfl, .ty _, .base (.tup ha), kTup, true, rfl, iteF ?_⟩
    refine ⟨_, rfl, _, rfl, _, _, rfl, ⟨a, rfl, ha⟩, fun H1 u s1 hu => ?_⟩
    rw [ht] at hu
    have ha1 := s1 _ _ ha
    refine rd_ne (IT.dp ⟨a, rfl, ha1⟩) hu.dp (shp_I ns) (by decide) ⟨_, rfl, iteF ?_⟩
    refine ⟨_, rfl, a, rfl, ⟨_, SqT.of ha1⟩, fun L hL => ?_⟩
    refine lc_mapR walk_tup (fun _ v _ => v = .bl true) hL ?_ (fun _ _ _ _ _ h => h) (fun H' s => SqT.of (s _ _ ha1)) yAt_same ?_ ?_
    · rw [List.length_map, sizeLine_eq]
      omega
    · rintro i x H2 H2' NX lt s ⟨rfl, hx⟩ k
      rw [List.getElem?_map] at hx
      cases e : ns[i]? with
      | none => rw [e] at hx; cases hx
      | some z =>
        rw [e] at hx
        have ex : V.int z = x := Option.some.inj hx
        subst ex
        have hp2 := s _ _ (s1 _ _ hp)
        refine ⟨rfl, _, rfl, _, rfl, p, CT, dx, fs, _, rfl, hp2, T.cT, T.tMarks, lm, _, _, rfl, rfl, z, 0, (m : Int) - 1, rfl, k _ _ (.refl _) ?_⟩
        obtain ⟨h1, h2⟩ := hi z (List.mem_of_getElem? e)
        rw [decide_eq_true h1, decide_eq_true (show z ≤ (m : Int) - 1 by omega)]
        rfl
    · intro H2 acc s eD la r
      have ea := acc_eq (f := fun _ => V.bl true) la r
      refine ⟨L, (List.range (ns.map V.int).length).map fun _ => true, rfl, ?_, ?_⟩
      · rw [List.map_map]
        exact SqL.of (eD.trans (by rw [ea]; rfl))
      · have : ((List.range (ns.map V.int).length).map fun _ => true).all id = true := by simp
        rw [this]
        exact q _ (s1.trans s)
abbrev sTConf : Stmt := inClass (top 10) 5
def spTConf (CT : Addr) : Sp := fun vs H Q _ => ∃ (p : Addr) (m s : Nat) (xs : List V) (v : V) (c : UC), vs = [.ref p, v] ∧ TapeO CT H p m s xs ∧ UCA H v c ∧ UCok m s c ∧ c.t.wt ≤ 1000000 ∧ ∀ H', Same H H' → Q (.bl true) H'
theorem scTConf : FnScope ["self", "value"] ["self", "value"] (defScope sTConf) := ⟨rfl, rfl, rfl, by decide +kernel, rfl, by decide +kernel, by decide +kernel⟩
theorem ok_tConf (T : Txt K mg CT CS CH) (D : DefM K CT "is_configuration" "Tape.is_configuration" sTConf ["self", "value"]) (N : OkF P w K mg base 1 "is_integer" ["value", "least", "most"] spBtw) (M : OkM P w K mg base 2 CT "_is_side" ["self", "value"] (spTSide CT)) :
    OkM P w K mg base 3 CT "is_configuration" ["self", "value"] (spTConf CT) := by
  obtain ⟨f, fd, g, b, F⟩ := D
  obtain ⟨fN, fdN, gN, kN, bN, GN⟩ := N
  obtain ⟨fM, fdM, mM, bM, GM⟩ := M
  refine ⟨f, fd, g, b, F.ok scTConf (fun vs H Q E h => ?_) (fun cdv A outer s0 H vs Q E hr h => ?_)⟩
  · obtain ⟨p, m, s, xs, v, c, rfl, _⟩ := h
    rfl
  · obtain ⟨p, m, s, xs, v, c, rfl, O, ⟨a, x, y, rfl, ha, hx, hy⟩, ok, hw, q⟩ := h
    have hr1 : Room 1 _ := hr.mono (by decide)
    refine ⟨_, pss_cons (ps_if (PW.pt (pw_or (pt_not (pt_val (pe_callB call_isi (by rfl) T.isinstance bIsi (pa_cons (pv 1) (pa_cons (pe_bltn (v := .ty "tuple") (by rfl) T.tuple bTuple rfl) pa_nil)))))
          (pw_or1 (pt_cmpR op_ne (pe_callB call_len_seq (by rfl) T.len PySem.boot_len (pa_cons (pv 1) pa_nil)) pe_int (nomark _))))) (pss_one (ps_ret pe_bl)) pss_nil)
      (pss_cons (ps_if (PW.pt (pw_or (pt_not (pt_val (pe_call GN hr1 (by rfl) gN kN bN .nil pass0 (pa_cons (pe_ix ix_tup (pv 1) pe_int (fun _ _ => rfl)) (pa_cons pe_int (pa_cons (pe_op op_sub (pe_fld (pv 0) rfl) pe_int) pa_nil))))))
          (pw_or1 (pt_not (pt_val (pe_call GN hr1 (by rfl) gN kN bN .nil pass0 (pa_cons (pe_ix ix_tup (pv 1) pe_int (fun _ _ => rfl)) (pa_cons pe_int (pa_cons (pe_op op_sub (pe_fld (pv 0) rfl) pe_int) pa_nil))))))))) (pss_one (ps_ret pe_bl)) pss_nil)
      (pss_one (ps_ret (pe_and (pe_meth (pv 0) T.cT mM GM hr bM .nil pass0 (pa_cons (pe_ix ix_tup (pv 1) pe_int (fun _ _ => rfl)) pa_nil)) (pe_one (pe_meth (pv 0) T.cT mM GM hr bM .nil pass0 (pa_cons (pe_ix ix_tup (pv 1) pe_int (fun _ _ => rfl)) pa_nil))))))), ?_⟩
    have S := SqT.of (K := K) ha
    obtain ⟨dx, fs, rl, h1, h2, h3, h4, h5, h6⟩ := O.ex
    have n5 : fs.lookup ("_is_side" : Str) = none := h5 _ (by decide +kernel) (by decide +kernel) (by decide +kernel)
    have hw : c.t.l.length + c.t.r.length ≤ 1000000 := hw
    refine ⟨_, rfl, _, _, _, _, _, rfl, .ty _, .base (.tup ha), kTup, true, rfl, iteF ?_⟩
    refine ⟨_, rfl, _, _, rfl, .inr S, rfl, _, rfl, iteF ?_⟩
    refine ⟨_, rfl, a, _, _, _, rfl, rfl, S, atI_nat (j := 0) rfl, _, rfl, p, CT, dx, fs, _, rfl, h1, T.cT, T.tStates, h3, _, _, rfl, rfl, _, _, _, rfl, true, ?_, iteF ?_⟩
    · obtain ⟨z1, z2⟩ := ok.q
      rw [decide_eq_true z1, decide_eq_true (show c.q ≤ (s : Int) - 1 by omega)]
      rfl
    refine ⟨_, rfl, a, _, _, _, rfl, rfl, S, atI_nat (j := 2) rfl, _, rfl, p, CT, dx, fs, _, rfl, h1, T.cT, T.tMarks, h2, _, _, rfl, rfl, _, _, _, rfl, true, ?_, iteF ?_⟩
    · obtain ⟨z1, z2⟩ := ok.t.mid
      rw [decide_eq_true z1, decide_eq_true (show c.t.m ≤ (m : Int) - 1 by omega)]
      rfl
    refine ⟨_, rfl, p, dx, fs, rfl, h1, n5, _, rfl, a, _, _, _, rfl, rfl, S, atI_nat (j := 1) rfl, p, m, x, c.t.l, rfl, ⟨dx, fs, h1, h2⟩, hx, by omega, ok.t.ok.1, ok.t.lo, fun H1 s1 => ⟨true, rfl, iteT ?_⟩⟩
    refine ⟨_, rfl, p, dx, fs, rfl, s1 _ _ h1, n5, _, rfl, a, _, _, _, rfl, rfl, SqT.of (s1 _ _ ha), atI_nat (j := 3) rfl, p, m, y, c.t.r, rfl, ⟨dx, fs, s1 _ _ h1, h2⟩, hy.ts (Same.ts s1), by omega, ok.t.ok.2, ok.t.hi, fun H2 s2 => q _ (s1.trans s2)⟩
end
end Bs

/-! Several._is_row, _clash_among -/
namespace Bs
open PySem L2
theorem pt_no {X : Cx} {e : Expr} : PT X e (fun _ _ _ => False) := ⟨fun _ _ _ _ _ _ h => h.elim⟩
/-- a row within bounds -/
def RowOk (M S : Nat) (r : Row) : Prop := match r with
  | .wr q r0 r1 w0 w1 n => InM S q ∧ InM S n ∧ InM M r0 ∧ InM M r1 ∧ InM M w0 ∧ InM M w1
  | .mv q d0 d1 n => InM S q ∧ InM S n ∧ (-1 ≤ d0 ∧ d0 ≤ 1) ∧ -1 ≤ d1 ∧ d1 ≤ 1
section
variable {P : Program} {w : World} {K : PySem.W.Frag} {mg : Str → Option Value} {base : Heap} {CT CS CH : Addr}
abbrev sSIsRow : Stmt := inClass (top 21) 1
def spSIsRow (CS : Addr) : Sp := fun vs H Q _ => ∃ (p : Addr) (v : V) (r : Row) (M S : Nat), vs = [.ref p, v] ∧ RowA H v r ∧ Fld CS H p "tapes" (.int 2) ∧ Fld CS H p "marks" (.int M) ∧ Fld CS H p "states" (.int S) ∧ RowOk M S r ∧ ∀ H', Same H H' → Q (.bl true) H'
theorem scSIsRow : FnScope ["self", "row"] ["self", "row"] (defScope sSIsRow) := ⟨rfl, rfl, rfl, by decide +kernel, rfl, by decide +kernel, by decide +kernel⟩
theorem ok_sIsRow (T : Txt K mg CT CS CH) (D : DefM K CS "_is_row" "Several._is_row" sSIsRow ["self", "row"]) (N : OkF P w K mg base 1 "is_number" ["value", "least", "most"] spBtw) (M : OkF P w K mg base 2 "is_tuple" ["value", "count", "least", "most"] spIsTup) :
    OkM P w K mg base 3 CS "_is_row" ["self", "row"] (spSIsRow CS) := by
  obtain ⟨f, fd, g, b, F⟩ := D
  obtain ⟨fN, fdN, gN, kN, bN, GN⟩ := N
  obtain ⟨fM, fdM, gM, kM, bM, GM⟩ := M
  refine ⟨f, fd, g, b, F.ok scSIsRow (fun vs H Q E h => ?_) (fun cdv A outer s0 H vs Q E hr h => ?_)⟩
  · obtain ⟨p, v, r, m, s, rfl, _⟩ := h
    rfl
  · obtain ⟨p, v, r, m, s, rfl, hR, ⟨dt, ft, ht, lt⟩, ⟨dm, fm, hm, lm⟩, ⟨ds, fs, hs, ls⟩, ok, q⟩ := h
    have hr1 : Room 1 _ := hr.mono (by decide)
    refine ⟨_, pss_cons (ps_if (PW.pt (pw_or (pt_not (pt_val (pe_callB call_isi (by rfl) T.isinstance bIsi (pa_cons (pv 1) (pa_cons (pe_bltn (v := .ty "tuple") (by rfl) T.tuple bTuple rfl) pa_nil)))))
          (pw_or1 (pt_cmpR op_lt (pe_callB call_len_seq (by rfl) T.len PySem.boot_len (pa_cons (pv 1) pa_nil)) pe_int (nomark _))))) (pss_one (ps_ret pe_bl)) pss_nil)
      (pss_cons (ps_if (PW.pt (pw_or (pt_not (pt_val (pe_call GN hr1 (by rfl) gN kN bN .nil pass0 (pa_cons (pe_ix ix_tup (pv 1) pe_int (fun _ _ => rfl)) (pa_cons pe_int (pa_cons (pe_op op_sub (pe_fld (pv 0) rfl) pe_int) pa_nil))))))
          (pw_or1 (pt_not (pt_val (pe_call GN hr1 (by rfl) gN kN bN .nil pass0 (pa_cons (pe_ix ix_tup (pv 1) (pe_un un_neg pe_int) (fun _ _ => rfl)) (pa_cons pe_int (pa_cons (pe_op op_sub (pe_fld (pv 0) rfl) pe_int) pa_nil))))))))) (pss_one (ps_ret pe_bl)) pss_nil)
      (pss_cons (ps_if (pt_cmpR op_eq (pe_ix ix_tup (pv 1) pe_int (fun _ _ => rfl)) pe_str (nomark _))
        (pss_one (ps_ret (pe_and (pe_cmpR op_eq (pe_callB call_len_seq (by rfl) T.len PySem.boot_len (pa_cons (pv 1) pa_nil)) pe_int (nomark _))
          (pe_one (pe_call GM hr (by rfl) gM kM bM .nil pass0 (pa_cons (pe_ix ix_tup (pv 1) pe_int (fun _ _ => rfl)) (pa_cons (pe_fld (pv 0) rfl) (pa_cons (pe_un un_neg pe_int) (pa_cons pe_int pa_nil))))))))) pss_nil)
      (pss_cons (ps_if (PW.pt (pw_or (pt_cmpR op_ne (pe_ix ix_tup (pv 1) pe_int (fun _ _ => rfl)) pe_str (nomark _)) (pw_or1 (pt_cmpR op_ne (pe_callB call_len_seq (by rfl) T.len PySem.boot_len (pa_cons (pv 1) pa_nil)) pe_int (nomark _))))) (pss_one (ps_ret pe_bl)) pss_nil)
      (pss_one (ps_ret (pe_and (pe_call GM hr (by rfl) gM kM bM .nil pass0 (pa_cons (pe_ix ix_tup (pv 1) pe_int (fun _ _ => rfl)) (pa_cons (pe_fld (pv 0) rfl) (pa_cons pe_int (pa_cons (pe_op op_sub (pe_fld (pv 0) rfl) pe_int) pa_nil)))))
          (pe_one (pe_call GM hr (by rfl) gM kM bM .nil pass0 (pa_cons (pe_ix ix_tup (pv 1) pe_int (fun _ _ => rfl)) (pa_cons (pe_fld (pv 0) rfl) (pa_cons pe_int (pa_cons (pe_op op_sub (pe_fld (pv 0) rfl) pe_int) pa_nil)))))))))))), ?_⟩
    cases r with
    | wr q0 r0 r1 w0 w1 n =>
      obtain ⟨a, x, y, rfl, ha, hx, hy⟩ := hR
      obtain ⟨o1, o2, o3, o4, o5, o6⟩ := ok
      obtain ⟨o11, o12⟩ := o1
      obtain ⟨o21, o22⟩ := o2
      obtain ⟨o31, o32⟩ := o3
      obtain ⟨o41, o42⟩ := o4
      obtain ⟨o51, o52⟩ := o5
      obtain ⟨o61, o62⟩ := o6
      have S := SqT.of (K := K) ha
      refine ⟨_, rfl, _, _, _, _, _, rfl, .ty _, .base (.tup ha), kTup, true, rfl, iteF ?_⟩
      refine ⟨_, rfl, _, _, rfl, .inr S, _, _, rfl, rfl, _, rfl, ?_⟩
      rw [decide_eq_false (show ¬ ((([V.str "write", V.int q0, x, y, V.int n] : List V).length : Nat) : Int) < 4 from (by decide : ¬ (5 : Int) < 4))]
      refine iteF ?_
      refine ⟨_, rfl, a, _, _, _, rfl, rfl, S, atI_nat (j := 1) rfl, _, rfl, p, CS, ds, fs, _, rfl, hs, T.cS, T.sStates, ls, _, _, rfl, rfl, _, _, _, rfl, true, ?_, iteF ?_⟩
      · rw [decide_eq_true o11, decide_eq_true (show q0 ≤ (s : Int) - 1 by omega)]
        rfl
      refine ⟨_, rfl, _, rfl, a, _, _, _, rfl, rfl, S, (show atI [V.str "write", V.int q0, x, y, V.int n] (-1) = some (V.int n) from rfl), _, rfl, p, CS, ds, fs, _, rfl, hs, T.cS, T.sStates, ls, _, _, rfl, rfl, _, _, _, rfl, true, ?_, iteF ?_⟩
      · rw [decide_eq_true o21, decide_eq_true (show n ≤ (s : Int) - 1 by omega)]
        rfl
      refine ⟨_, rfl, a, _, _, _, rfl, rfl, S, atI_nat (j := 0) rfl, rfl, _, rfl, ?_⟩
      rw [decide_eq_false (by intro z; exact absurd (V.str.inj z) (by decide +kernel))]
      refine iteF ?_
      refine ⟨_, rfl, a, _, _, _, rfl, rfl, S, atI_nat (j := 0) rfl, rfl, _, rfl, ?_⟩
      rw [decide_eq_true rfl]
      refine iteF ⟨_, rfl, _, _, rfl, .inr S, rfl, _, rfl, iteF ?_⟩
      refine ⟨_, rfl, a, _, _, _, rfl, rfl, S, atI_nat (j := 2) rfl, _, rfl, p, CS, dt, ft, _, rfl, ht, T.cS, T.sTapes, lt, _, rfl, p, CS, dm, fm, _, rfl, hm, T.cS, T.sMarks, lm, _, _, rfl, rfl, x, [r0, r1], 0, (m : Int) - 1, rfl, hx, (by show 2 ≤ 1000; decide), ?_, fun H1 s1 => ⟨true, rfl, iteT ?_⟩⟩
      · intro z hz
        simp only [List.mem_cons, List.not_mem_nil, or_false] at hz
        omega
      refine ⟨_, rfl, a, _, _, _, rfl, rfl, SqT.of (s1 _ _ ha), atI_nat (j := 3) rfl, _, rfl, p, CS, dt, ft, _, rfl, s1 _ _ ht, T.cS, T.sTapes, lt, _, rfl, p, CS, dm, fm, _, rfl, s1 _ _ hm, T.cS, T.sMarks, lm, _, _, rfl, rfl, y, [w0, w1], 0, (m : Int) - 1, rfl, hy.ts (Same.ts s1), (by show 2 ≤ 1000; decide), ?_, fun H2 s2 => q _ (s1.trans s2)⟩
      intro z hz
      simp only [List.mem_cons, List.not_mem_nil, or_false] at hz
      omega
    | mv q0 d0 d1 n =>
      obtain ⟨a, x, rfl, ha, hx⟩ := hR
      obtain ⟨o1, o2, o3, o4⟩ := ok
      obtain ⟨o11, o12⟩ := o1
      obtain ⟨o21, o22⟩ := o2
      have S := SqT.of (K := K) ha
      refine ⟨_, rfl, _, _, _, _, _, rfl, .ty _, .base (.tup ha), kTup, true, rfl, iteF ?_⟩
      refine ⟨_, rfl, _, _, rfl, .inr S, _, _, rfl, rfl, _, rfl, ?_⟩
      rw [decide_eq_false (show ¬ ((([V.str "move", V.int q0, x, V.int n] : List V).length : Nat) : Int) < 4 from (by decide : ¬ (4 : Int) < 4))]
      refine iteF ?_
      refine ⟨_, rfl, a, _, _, _, rfl, rfl, S, atI_nat (j := 1) rfl, _, rfl, p, CS, ds, fs, _, rfl, hs, T.cS, T.sStates, ls, _, _, rfl, rfl, _, _, _, rfl, true, ?_, iteF ?_⟩
      · rw [decide_eq_true o11, decide_eq_true (show q0 ≤ (s : Int) - 1 by omega)]
        rfl
      refine ⟨_, rfl, _, rfl, a, _, _, _, rfl, rfl, S, (show atI [V.str "move", V.int q0, x, V.int n] (-1) = some (V.int n) from rfl), _, rfl, p, CS, ds, fs, _, rfl, hs, T.cS, T.sStates, ls, _, _, rfl, rfl, _, _, _, rfl, true, ?_, iteF ?_⟩
      · rw [decide_eq_true o21, decide_eq_true (show n ≤ (s : Int) - 1 by omega)]
        rfl
      refine ⟨_, rfl, a, _, _, _, rfl, rfl, S, atI_nat (j := 0) rfl, rfl, _, rfl, ?_⟩
      rw [decide_eq_true rfl]
      refine iteT ⟨_, rfl, _, _, rfl, .inr S, rfl, _, rfl, ?_⟩
      rw [decide_eq_true (show V.int ((([V.str "move", V.int q0, x, V.int n] : List V).length : Nat) : Int) = V.int 4 from rfl)]
      refine iteT ?_
      refine ⟨_, rfl, a, _, _, _, rfl, rfl, S, atI_nat (j := 2) rfl, _, rfl, p, CS, dt, ft, _, rfl, ht, T.cS, T.sTapes, lt, _, rfl, x, [d0, d1], -1, 1, rfl, hx, (by show 2 ≤ 1000; decide), ?_, fun H1 s1 => q _ s1⟩
      intro z hz
      simp only [List.mem_cons, List.not_mem_nil, or_false] at hz
      omega
abbrev sClash : Stmt := top 20
/-- what a row reads -/
def rkey : Row → Int × Int
  | .wr _ r0 r1 _ _ _ => (r0, r1)
  | .mv _ _ _ _ => (0, 0)
def isWr : Row → Prop
  | .wr _ _ _ _ _ _ => True
  | .mv _ _ _ _ => False
/-- the rows at the places is don't clash -/
def Clean (rs : List Row) (is : List Nat) : Prop := (∀ i ∈ is, i < rs.length) ∧ (is.length < 2 ∨ ((∀ i ∈ is, ∃ r, rs[i]? = some r ∧ isWr r) ∧ is.Pairwise fun i j => ∀ r r', rs[i]? = some r → rs[j]? = some r' → rkey r ≠ rkey r'))
def spClash : Sp := fun vs H Q _ => ∃ (ra ia : Addr) (xs : List V) (rs : List Row) (is : List Nat), vs = [.ref ra, .ref ia] ∧ H ra = some (.lst xs) ∧ Al (RowA H) xs rs ∧ H ia = some (.lst (is.map fun i => V.int (i : Nat))) ∧ is.length ≤ 20000 ∧ Clean rs is ∧ ∀ H', Same H H' → Q .non H'
theorem scClash : FnScope ["rows", "indexes", "at", "first", "other", "found", "known", "reads"] ["rows", "indexes"] (defScope sClash) := ⟨rfl, rfl, rfl, by decide +kernel, rfl, by decide +kernel, by decide +kernel⟩
theorem ok_clash (T : Txt K mg CT CS CH) (D : DefF K mg "_clash_among" sClash ["rows", "indexes"]) : OkF P w K mg base 1 "_clash_among" ["rows", "indexes"] spClash := by
  obtain ⟨f, fd, g, b, F⟩ := D
  refine ⟨f, fd, g, F.kp, b, F.ok scClash (fun vs H Q E h => ?_) (fun cdv A outer s0 H vs Q E hr h => ?_)⟩
  · obtain ⟨ra, ia, xs, rs, is, rfl, _⟩ := h
    rfl
  · obtain ⟨ra, ia, xs, rs, is, rfl, hra, hR, hia, hl, ⟨hb, hc⟩, q⟩ := h
    refine ⟨_, pss_cons (ps_if (pt_cmpR op_lt (pe_callB call_len_seq (by rfl) T.len PySem.boot_len (pa_cons (pv 1) pa_nil)) pe_int (nomark _)) (pss_one (ps_ret pe_non)) pss_nil)
      (pss_cons (ps_if (pt_val (pe_callB (cr_any rfl) (by rfl) T.any bAny (pa_cons (pe_lc (own := [("at", 2)]) (g := gName 2) (tt := tYes) (te := tOp rEq (tOp (rIxT K) (tOp (rIxL K) (tVar 0) (tVar 2)) (tC (.int 0))) (tC (.str "move"))) rfl scClash.nd (pi_list (pv 1))
          (blkOk_by (N := ["rows", "indexes", "at", "first", "other", "found", "known", "reads"]) (sc := defScope sClash) (by decide +kernel)) (fun _ _ _ _ _ => pg_name (i := 2) scClash.nd rfl (Or.inl rfl)) (fun _ _ _ _ _ => pts_nil)
          (fun _ _ _ _ _ => pe_cmpR op_eq (pe_ix ix_tup (pe_ix ix_list (pv 0) (pv 2) (fun _ _ => rfl)) pe_int (fun _ _ => rfl)) pe_str (nomark _))) pa_nil))) pss_never pss_nil)
      (pss_cons (ps_set (i := 5) scClash.nd rfl (Or.inl rfl) pe_non)
      (pss_cons (ps_set (i := 6) scClash.nd rfl (Or.inl rfl) pe_dnewT)
      (pss_cons (ps_for PassesOwn.never rfl (pi_list (pv 1)) (pg_name (i := 2) scClash.nd rfl (Or.inl rfl))
        (pss_cons (ps_set (i := 7) scClash.nd rfl (Or.inl rfl) (pe_ix ix_tup (pe_ix ix_list (pv 0) (pv 2) (fun _ _ => rfl)) pe_int (fun _ _ => rfl)))
        (pss_one (ps_if (pt_cmp (pc_dnotin (hu_of hr) (pv 7) (pv 6)) (by rfl)) (pss_one (ps_dput (hu_of hr) (pv 6) (pv 7) (pv 2) rfl)) pss_never))))
      (pss_one (ps_ret (pv 5))))))), ?_⟩
    have LI := SqL.of (K := K) hia
    refine ⟨_, rfl, _, _, rfl, .inl LI, _, _, rfl, rfl, _, rfl, ?_⟩
    by_cases c2 : is.length < 2
    · rw [decide_eq_true (by rw [List.length_map]; omega)]
      exact iteT (q _ (.refl _))
    · rw [decide_eq_false (by rw [List.length_map]; omega)]
      refine iteF ?_
      rcases hc with hc | ⟨hw, hk⟩
      · exact absurd hc c2
      have at_ : ∀ i x, (is.map fun i => V.int (i : Nat))[i]? = some x → ∃ j, is[i]? = some j ∧ x = V.int (j : Nat) := fun i x h => by
        rw [List.getElem?_map] at h
        cases e : is[i]? with
        | none => rw [e] at h; cases h
        | some j =>
          rw [e] at h
          exact ⟨j, e, (Option.some.inj h).symm⟩
      refine ⟨_, rfl, ia, rfl, ⟨_, LI⟩, fun L hL => ?_⟩
      refine lc_mapR walk_list (fun _ v _ => v = .bl false) hL ?_ (fun _ _ _ _ _ h => h) (fun H' s => SqL.of (s _ _ hia)) yAt_same ?_ ?_
      · rw [List.length_map, sizeLine_eq]
        omega
      · rintro i x H2 H2' NX lt s ⟨rfl, hx⟩ k
        obtain ⟨j, hj, rfl⟩ := at_ i x hx
        obtain ⟨r, hr1, hr2⟩ := hw j (List.mem_of_getElem? hj)
        obtain ⟨y, hy1, hy2⟩ := hR.get hr1
        have hy2 := RowA.ts (Same.ts s) hy2
        cases r with
        | mv _ _ _ _ => exact hr2.elim
        | wr q0 r0 r1 w0 w1 n =>
          obtain ⟨a, u1, u2, rfl, ha, _, _⟩ := hy2
          refine ⟨rfl, _, rfl, _, rfl, ra, xs, _, _, rfl, rfl, SqL.of (s _ _ hra), atI_nat hy1, a, _, _, _, rfl, rfl, SqT.of ha, atI_nat (j := 0) rfl, rfl, k _ _ (.refl _) ?_⟩
          rw [decide_eq_false (by intro z; exact absurd (V.str.inj z) (by decide +kernel))]
      · intro H2 acc s eD la r
        have ea := acc_eq (f := fun _ => V.bl false) la r
        refine ⟨L, (List.range (is.map fun i => V.int (i : Nat)).length).map fun _ => false, rfl, ?_, false, ?_, iteF ?_⟩
        · rw [List.map_map]
          exact SqL.of (eD.trans (by rw [ea]; rfl))
        · have : ((List.range (is.map fun i => V.int (i : Nat)).length).map fun _ => false).any id = false := by simp
          rw [this]
        intro d hd
        have s1 : Same H (upd H2 d (.dT [])) := s.trans (nw hd)
        have d0 : H d = none := s.free hd
        refine ⟨_, rfl, ia, rfl, ⟨_, SqL.of (s1 _ _ hia)⟩, for_list (K := K) (a := ia) (xs := is.map fun i => V.int (i : Nat))
          (fun i σ H' => Same H H' ∧ (∃ kvs, H' d = some (.dT kvs) ∧ kvs.length ≤ i ∧ ∀ k0 k1 v, valV kvs [.inl k0, .inl k1] = some v → ∃ (j j' : Nat) (r : Row), j < i ∧ is[j]? = some j' ∧ rs[j']? = some r ∧ rkey r = (k0, k1)) ∧
            ∃ v2 v7, σ = [some (.ref ra), some (.ref ia), v2, none, none, some .non, some (.ref d), v7])
          ⟨s1, ⟨[], upd_same, Nat.le_refl _, fun k0 k1 v h => by cases h⟩, none, none, rfl⟩ (fun i σ H' _ h => SqL.of (h.1 _ _ hia)) ?_ ?_⟩
        · rintro i x σ H' hx ⟨s', ⟨kvs, hd', hkl, hkv⟩, v2, v7, rfl⟩
          obtain ⟨j, hj, rfl⟩ := at_ i x hx
          obtain ⟨r, hr1, hr2⟩ := hw j (List.mem_of_getElem? hj)
          obtain ⟨y, hy1, hy2⟩ := hR.get hr1
          have hy2 := RowA.ts (Same.ts s') hy2
          cases r with
          | mv _ _ _ _ => exact hr2.elim
          | wr q0 r0 r1 w0 w1 n =>
            obtain ⟨a, u1, u2, rfl, ha, ⟨b1, rfl, hb1⟩, _⟩ := hy2
            refine ⟨_, rfl, _, rfl, ra, xs, _, _, rfl, rfl, SqL.of (s' _ _ hra), atI_nat hy1, a, _, _, _, rfl, rfl, SqT.of ha, atI_nat (j := 2) rfl, ?_⟩
            have vn : valV kvs [.inl r0, .inl r1] = none := by
              cases e : valV kvs [.inl r0, .inl r1] with
              | none => rfl
              | some v =>
                obtain ⟨j1, j2, r2, h1, h2, h3, h4⟩ := hkv r0 r1 v e
                have hp := List.pairwise_iff_getElem.mp hk
                obtain ⟨l1, e1⟩ := List.getElem?_eq_some_iff.mp h2
                obtain ⟨l2, e2⟩ := List.getElem?_eq_some_iff.mp hj
                exact absurd h4 (hp j1 i l1 l2 h1 r2 (.wr q0 r0 r1 w0 w1 n) (by rw [e1]; exact h3) (by rw [e2]; exact hr1))
            refine ⟨_, rfl, _, rfl, d, _, rfl, DGet.t (k := [.inl r0, .inl r1]) hd' hb1, _, rfl, ?_⟩
            rw [vn]
            refine iteT ?_
            refine ⟨_, rfl, _, rfl, _, rfl, d, _, rfl, DPut.t (k := [.inl r0, .inl r1]) hd' hb1 ?_, ?_⟩
            · have li := (List.getElem?_eq_some_iff.mp hj).1
              rw [sizeLine_eq]
              omega
            refine ⟨ow s' d0, ⟨_, upd_same, ?_, fun k0 k1 v h => ?_⟩, _, _, rfl⟩
            · have := length_putK kvs [.inl r0, .inl r1] (V.int (j : Nat))
              omega
            · rw [valV_put] at h
              by_cases ek : ([.inl k0, .inl k1] : List Key) = [.inl r0, .inl r1]
              · obtain ⟨rfl, rfl⟩ : k0 = r0 ∧ k1 = r1 := by simpa using ek
                exact ⟨i, j, _, by omega, hj, hr1, rfl⟩
              · rw [if_neg ek] at h
                obtain ⟨j1, j2, r2, h1, h2, h3, h4⟩ := hkv k0 k1 v h
                exact ⟨j1, j2, r2, by omega, h2, h3, h4⟩
        · rintro σ H' ⟨s', _, v2, v7, rfl⟩
          exact ⟨_, rfl, q _ s'⟩
end
end Bs

/-! first_clash -/
namespace Bs
open PySem L2
/-- the places of the rows of one state, below i -/
def grp (rs : List Row) (q : Int) (i : Nat) : List Nat := (List.range i).filter fun j => decide ((rs[j]?).map Row.st = some q)
theorem grp_succ {rs : List Row} {i : Nat} {r : Row} (h : rs[i]? = some r) (q : Int) : grp rs q (i + 1) = if r.st = q then grp rs q i ++ [i] else grp rs q i := by
  unfold grp
  rw [List.range_succ, List.filter_append]
  have e : List.filter (fun j => decide ((rs[j]?).map Row.st = some q)) [i] = if r.st = q then [i] else [] := by
    by_cases c : r.st = q
    · simp [h, c]
    · simp [h, c]
  rw [e]
  by_cases c : r.st = q
  · rw [if_pos c, if_pos c]
  · rw [if_neg c, if_neg c, List.append_nil]
theorem nc_same {a b : Row} (h : nc a b) (e : a.st = b.st) : isWr a ∧ isWr b ∧ rkey a ≠ rkey b := by
  cases a <;> cases b <;> simp only [nc, Row.st, isWr, rkey] at * <;> first | exact absurd e h | skip
  exact ⟨True.intro, True.intro, fun q => h e (by simpa using q)⟩
theorem grp_clean {rs : List Row} (p : rs.Pairwise nc) (q : Int) {n : Nat} (hn : n ≤ rs.length) : Clean rs (grp rs q n) := by
  have mem : ∀ j ∈ grp rs q n, j < rs.length ∧ ∃ r, rs[j]? = some r ∧ r.st = q := fun j hj => by
    obtain ⟨h1, h2⟩ := List.mem_filter.mp hj
    have hl : j < rs.length := Nat.lt_of_lt_of_le (List.mem_range.mp h1) hn
    refine ⟨hl, rs[j], List.getElem?_eq_getElem hl, ?_⟩
    have h2 := of_decide_eq_true h2
    rw [List.getElem?_eq_getElem hl] at h2
    exact Option.some.inj h2
  have pw : (grp rs q n).Pairwise fun i j => i < j := List.Pairwise.filter _ List.pairwise_lt_range
  have two : ∀ i ∈ grp rs q n, ∀ j ∈ grp rs q n, i < j → ∃ r r', rs[i]? = some r ∧ rs[j]? = some r' ∧ isWr r ∧ isWr r' ∧ rkey r ≠ rkey r' := fun i hi j hj l => by
    obtain ⟨l1, r, e1, s1⟩ := mem i hi
    obtain ⟨l2, r', e2, s2⟩ := mem j hj
    have z := List.pairwise_iff_getElem.mp p i j l1 l2 l
    rw [List.getElem?_eq_getElem l1] at e1
    rw [List.getElem?_eq_getElem l2] at e2
    rw [Option.some.inj e1, Option.some.inj e2] at z
    obtain ⟨w1, w2, w3⟩ := nc_same z (s1.trans s2.symm)
    exact ⟨r, r', by rw [List.getElem?_eq_getElem l1]; exact e1, by rw [List.getElem?_eq_getElem l2]; exact e2, w1, w2, w3⟩
  refine ⟨fun j hj => (mem j hj).1, ?_⟩
  by_cases c : (grp rs q n).length < 2
  · exact .inl c
  · refine .inr ⟨fun i hi => ?_, ?_⟩
    · have l0 : 0 < (grp rs q n).length := by omega
      have l1 : 1 < (grp rs q n).length := by omega
      have h01 := List.pairwise_iff_getElem.mp pw 0 1 l0 l1 (by decide)
      have m0 : (grp rs q n)[0] ∈ grp rs q n := List.getElem_mem l0
      have m1 : (grp rs q n)[1] ∈ grp rs q n := List.getElem_mem l1
      by_cases e : i = (grp rs q n)[0]
      · obtain ⟨r, r', e1, e2, w1, w2, _⟩ := two i hi _ m1 (by omega)
        exact ⟨r, e1, w1⟩
      · by_cases l : i < (grp rs q n)[0]
        · obtain ⟨r, r', e1, e2, w1, w2, _⟩ := two i hi _ m0 l
          exact ⟨r, e1, w1⟩
        · obtain ⟨r, r', e1, e2, w1, w2, _⟩ := two _ m0 i hi (by omega)
          exact ⟨r', e2, w2⟩
    · refine (List.Pairwise.and_mem.mp pw).imp fun {i j} h r r' e1 e2 => ?_
      obtain ⟨hi, hj, l⟩ := h
      obtain ⟨a, b, e3, e4, _, _, w3⟩ := two i hi j hj l
      rw [e1] at e3
      rw [e2] at e4
      rw [Option.some.inj e3, Option.some.inj e4]
      exact w3
theorem grp_len (rs : List Row) (q : Int) (n : Nat) : (grp rs q n).length ≤ n := by
  have := List.length_filter_le (fun j => decide ((rs[j]?).map Row.st = some q)) (List.range n)
  rw [List.length_range] at this
  exact this
theorem RowA.st {H : Hp} {v : V} {r : Row} (h : RowA H v r) : ∃ a xs, v = .ref a ∧ H a = some (.tup xs) ∧ xs[1]? = some (.int r.st) := by
  cases r with
  | wr q r0 r1 w0 w1 n =>
    obtain ⟨a, x, y, e, h, _⟩ := h
    exact ⟨a, _, e, h, rfl⟩
  | mv q d0 d1 n =>
    obtain ⟨a, x, e, h, _⟩ := h
    exact ⟨a, _, e, h, rfl⟩
section
variable {P : Program} {w : World} {K : PySem.W.Frag} {mg : Str → Option Value} {base : Heap} {CT CS CH : Addr}
abbrev sFirst : Stmt := top 19
def spFirst : Sp := fun vs H Q _ => ∃ (ra : Addr) (xs : List V) (rs : List Row), vs = [.ref ra] ∧ H ra = some (.lst xs) ∧ Al (RowA H) xs rs ∧ rs.length ≤ 20000 ∧ rs.Pairwise nc ∧ ∀ H', Same H H' → Q .non H'
theorem scFirst : FnScope ["rows", "by_state", "at", "row", "found", "state", "pair"] ["rows"] (defScope sFirst) := ⟨rfl, rfl, rfl, by decide +kernel, rfl, by decide +kernel, by decide +kernel⟩
/-- the dict of the groups, below i -/
structure ByState (H0 H : Hp) (d : Addr) (rs : List Row) (i : Nat) (kvs : List (Key × V)) : Prop where
  at_ : H d = some (.dK kvs)
  len : kvs.length ≤ i
  keys : ∀ kv ∈ kvs, ∃ q, kv.1 = .inl q
  some_ : ∀ q v, valV kvs (.inl q) = some v → ∃ l, v = .ref l ∧ H0 l = none ∧ H l = some (.lst ((grp rs q i).map fun i => V.int (i : Nat)))
  none_ : ∀ q, valV kvs (.inl q) = none → grp rs q i = []
  inj : ∀ q q' l, valV kvs (.inl q) = some (.ref l) → valV kvs (.inl q') = some (.ref l) → q = q'
theorem mem_putK {κ : Type} [DecidableEq κ] {kvs : List (κ × V)} {k : κ} {v : V} {kv : κ × V} (h : kv ∈ putK kvs k v) : kv.1 = k ∨ ∃ kv' ∈ kvs, kv'.1 = kv.1 := by
  unfold putK at h
  split at h
  · obtain ⟨kv', h1, h2⟩ := List.mem_map.mp h
    refine .inr ⟨kv', h1, ?_⟩
    rw [← h2]
    split <;> rfl
  · rcases List.mem_append.mp h with h | h
    · exact .inr ⟨kv, h, rfl⟩
    · rw [List.mem_singleton.mp h]
      exact .inl rfl
theorem valV_mem {κ : Type} [DecidableEq κ] : ∀ {kvs : List (κ × V)} {k : κ} {v : V}, (k, v) ∈ kvs → ∃ v', valV kvs k = some v'
  | [], _, _, h => by cases h
  | p :: r, k, v, h => by
    by_cases e : p.1 = k
    · exact ⟨_, valV_pos e⟩
    · rw [valV_neg e]
      rcases List.mem_cons.mp h with h | h
      · rw [← h] at e
        exact absurd rfl e
      · exact valV_mem h
theorem ok_first (T : Txt K mg CT CS CH) (D : DefF K mg "first_clash" sFirst ["rows"]) (C : OkF P w K mg base 1 "_clash_among" ["rows", "indexes"] spClash) : OkF P w K mg base 2 "first_clash" ["rows"] spFirst := by
  obtain ⟨f, fd, g, b, F⟩ := D
  obtain ⟨fC, fdC, gC, kC, bC, GC⟩ := C
  refine ⟨f, fd, g, F.kp, b, F.ok scFirst (fun vs H Q E h => ?_) (fun cdv A outer s0 H vs Q E hr h => ?_)⟩
  · obtain ⟨ra, xs, rs, rfl, _⟩ := h
    rfl
  · obtain ⟨ra, xs, rs, rfl, hra, hR, hl, hp, q⟩ := h
    refine ⟨_, pss_cons (ps_set (i := 1) scFirst.nd rfl (Or.inl rfl) pe_dnewK)
      (pss_cons (ps_for PassesOwn.never rfl (pi_enum (by rfl) T.enumerate (pa_cons (pv 0) pa_nil)) (pg_tup rfl (pgs_cons (pg_name (i := 2) scFirst.nd rfl (Or.inl rfl)) (pgs_cons (pg_name (i := 3) scFirst.nd rfl (Or.inl rfl)) pgs_nil)))
        (pss_one (ps_expr (pe_bm PySem.F.plainAttrs_list PySem.F.slot_list_append PySem.F.type_list_append mt_append (pe_dsetd (pv 1) (pe_ix ix_tup (pv 3) pe_int (fun _ _ => rfl)) (pe_lst pa_nil) ⟨by rfl, by rfl, by rfl, by rfl⟩) (pa_cons (pv 2) pa_nil)))))
      (pss_cons (ps_set (i := 4) scFirst.nd rfl (Or.inl rfl) pe_non)
      (pss_cons (ps_lock (ps_for PassesOwn.never rfl (pi_keys (pv 1)) (pg_name (i := 5) scFirst.nd rfl (Or.inl rfl))
        (pss_cons (ps_set (i := 6) scFirst.nd rfl (Or.inl rfl) (pe_call GC hr (by rfl) gC kC bC .nil pass0 (pa_cons (pv 0) (pa_cons (pe_dget (hu_of hr) (pv 1) (pv 5) (fun _ _ => rfl)) pa_nil))))
        (pss_one (ps_if (PW.pt (pw_and (pt_cmpR op_notN (pv 6) pe_non (nomark _)) (pw_and1 pt_no))) pss_never pss_nil)))))
      (pss_one (ps_ret (pv 4)))))), ?_⟩
    intro d hd
    have s1 : Same H (upd H d (.dK [])) := nw hd
    refine ⟨_, rfl, ra, xs, rfl, SqL.of (s1 _ _ hra), for_it (walk_enum (K := K) (a := ra) (xs := xs)) (fun i σ H' => Same H H' ∧ (∃ kvs, ByState H H' d rs i kvs) ∧ ∃ v2 v3, σ = [some (.ref ra), some (.ref d), v2, v3, none, none, none])
      ⟨s1, ⟨[], upd_same, Nat.le_refl _, fun kv h => (nomatch h), fun q v h => (by cases h), fun q _ => rfl, fun q q' l h => (by cases h)⟩, none, none, rfl⟩ (fun i σ H' _ h => SqL.of (h.1 _ _ hra)) ?_ ?_⟩
    · rintro i x σ H1 H1' hi ⟨s', ⟨kvs, B⟩, v2, v3, rfl⟩ ⟨t, y1, y2, rfl, ht, rfl, e1, e2⟩
      have e1 : V.int (i : Nat) = y1 := Option.some.inj e1
      subst e1
      obtain ⟨r, hr1, hr2⟩ := hR.of e2
      have st := nw (o := .tup [.int (i : Nat), y2]) ht
      obtain ⟨c, ys, rfl, hc, hc1⟩ := RowA.st (hr2.ts (Same.ts (s'.trans st)))
      have hdt := st _ _ B.at_
      refine ⟨t, _, rfl, SqT.of upd_same, rfl, _, _, rfl, _, _, rfl, rfl, ?_⟩
      refine ⟨_, rfl, d, rfl, .inl ⟨kvs, .inl hdt⟩, _, rfl, c, ys, 1, .int r.st, rfl, rfl, SqT.of hc, atI_nat (j := 1) hc1, Nat.zero_le _, fun l hl2 => ?_⟩
      have sl := nw (o := .lst []) hl2
      have hdl := sl _ _ hdt
      have l0 : H l = none := s'.free (st.free hl2)
      have gs := grp_succ hr1
      have li : i < rs.length := (List.getElem?_eq_some_iff.mp hr1).1
      refine ⟨kvs, .inl r.st, hdl, rfl, by have := B.len; rw [sizeLine_eq]; omega, fun v hv => ?_, fun hv => ?_⟩
      · obtain ⟨l', rfl, l0', hl'⟩ := B.some_ _ _ hv
        have hl3 := sl _ _ (st _ _ hl')
        refine ⟨.inl ⟨rfl, _, SqL.of hl3⟩, _, rfl, l', _, _, rfl, rfl, hl3, ?_, ?_⟩
        · rw [List.length_map, sizeLine_eq]
          have := grp_len rs r.st i
          omega
        have ndl : d ≠ l' := ne_of hdl hl3 (by intro z; cases z)
        refine ⟨ow ((s'.trans st).trans sl) l0', ⟨kvs, by rw [upd_ne ndl]; exact hdl, by have := B.len; omega, B.keys, fun q' v' hv' => ?_, fun q' hv' => ?_, B.inj⟩, _, _, rfl⟩
        · obtain ⟨l2, rfl, l20, hl22⟩ := B.some_ _ _ hv'
          by_cases c : r.st = q'
          · subst c
            rw [hv] at hv'
            obtain rfl : l' = l2 := V.ref.inj (Option.some.inj hv')
            refine ⟨l', rfl, l0', ?_⟩
            rw [upd_same, gs, if_pos rfl, List.map_append]
            rfl
          · refine ⟨l2, rfl, l20, ?_⟩
            have ne : l2 ≠ l' := fun e => c (B.inj _ _ l' hv (by rw [← e]; exact hv'))
            rw [upd_ne ne, gs, if_neg c]
            exact sl _ _ (st _ _ hl22)
        · rw [gs, if_neg (fun c => by rw [← c, hv] at hv'; cases hv')]
          exact B.none_ _ hv'
      · have dl : d ≠ l := ne_of_none hdt hl2
        have hll : upd (upd (upd H1 t (.tup [.int (i : Nat), .ref c])) l (.lst [])) d (.dK (putK kvs (.inl r.st) (.ref l))) l = some (.lst []) := by rw [upd_ne dl.symm, upd_same]
        refine ⟨.inl ⟨rfl, _, SqL.of hll⟩, _, rfl, l, _, _, rfl, rfl, hll, (by show 0 < sizeLine; decide), ?_⟩
        have d0 : H d = none := hd
        refine ⟨ow (ow ((s'.trans st).trans sl) d0) l0, ⟨_, by rw [upd_ne dl, upd_same], ?_, fun kv hkv => ?_, fun q' v' hv' => ?_, fun q' hv' => ?_, fun q1 q2 l2 h1 h2 => ?_⟩, _, _, rfl⟩
        · have := length_putK kvs (.inl r.st) (V.ref l)
          have := B.len
          omega
        · rcases mem_putK hkv with e | ⟨kv', h1, h2⟩
          · exact ⟨_, e⟩
          · obtain ⟨q', e⟩ := B.keys _ h1
            exact ⟨q', by rw [← h2]; exact e⟩
        · rw [valV_put] at hv'
          by_cases c : r.st = q'
          · subst c
            rw [if_pos rfl] at hv'
            obtain rfl : V.ref l = v' := Option.some.inj hv'
            refine ⟨l, rfl, l0, ?_⟩
            rw [upd_same, gs, if_pos rfl, B.none_ _ hv]
            rfl
          · rw [if_neg (by intro e; exact c (Sum.inl.inj e).symm)] at hv'
            obtain ⟨l2, rfl, l20, hl22⟩ := B.some_ _ _ hv'
            refine ⟨l2, rfl, l20, ?_⟩
            have n1 : l2 ≠ l := ne_of_none (st _ _ hl22) hl2
            have n2 : l2 ≠ d := ne_of (st _ _ hl22) hdt (by intro z; cases z)
            rw [upd_ne n1, upd_ne n2, gs, if_neg c]
            exact sl _ _ (st _ _ hl22)
        · rw [valV_put] at hv'
          by_cases c : r.st = q'
          · subst c
            rw [if_pos rfl] at hv'
            cases hv'
          · rw [if_neg (by intro e; exact c (Sum.inl.inj e).symm)] at hv'
            rw [gs, if_neg c]
            exact B.none_ _ hv'
        · rw [valV_put] at h1 h2
          have old : ∀ q0, valV kvs (.inl q0) = some (.ref l) → False := fun q0 h0 => by
            obtain ⟨l3, e3, _, h3⟩ := B.some_ _ _ h0
            obtain rfl : l = l3 := V.ref.inj e3
            exact ne_of_none (st _ _ h3) hl2 rfl
          by_cases c1 : (Sum.inl q1 : Key) = .inl r.st
          · by_cases c2 : (Sum.inl q2 : Key) = .inl r.st
            · exact Sum.inl.inj (c1.trans c2.symm)
            · rw [if_pos c1] at h1
              rw [if_neg c2] at h2
              obtain rfl : l = l2 := V.ref.inj (Option.some.inj h1)
              exact (old _ h2).elim
          · by_cases c2 : (Sum.inl q2 : Key) = .inl r.st
            · rw [if_neg c1] at h1
              rw [if_pos c2] at h2
              obtain rfl : l = l2 := V.ref.inj (Option.some.inj h2)
              exact (old _ h1).elim
            · rw [if_neg c1] at h1
              rw [if_neg c2] at h2
              exact B.inj _ _ _ h1 h2
    · rintro σ H1 ⟨s', ⟨kvs, B⟩, v2, v3, rfl⟩
      have d0 : H d = none := hd
      refine ⟨d, .dK kvs, B.at_, True.intro, fun od => ?_⟩
      refine ⟨_, rfl, d, od, rfl, .inl ⟨kvs, upd_same, for_it (walk_keys (d := d) (o := od) (kvs := kvs)) (fun i σ H' => Same (upd H1 d (.frz od (.dK kvs))) H' ∧ ∃ v5 v6, σ = [some (.ref ra), some (.ref d), v2, v3, some .non, v5, v6])
        ⟨.refl _, none, none, rfl⟩ (fun i σ H' _ h => h.1 _ _ upd_same) ?_ ?_⟩⟩
      · rintro i x σ H2 H2' hi ⟨s2, v5, v6, rfl⟩ ⟨rfl, k, v, hkv, rfl⟩
        have hm := List.mem_of_getElem? hkv
        obtain ⟨q', e⟩ := B.keys _ hm
        have e : k = .inl q' := e
        subst e
        obtain ⟨v', hv'⟩ := valV_mem hm
        obtain ⟨l, rfl, l0, hl3⟩ := B.some_ _ _ hv'
        have up : ∀ b o, b ≠ d → H1 b = some o → H2' b = some o := fun b o nb e => s2 _ _ (by rw [upd_ne nb]; exact e)
        have ts : TS H H2' := fun a ys e => by
          refine up _ _ (fun z => ?_) (s' _ _ e)
          rw [z, d0] at e
          cases e
        refine ⟨_, rfl, _, rfl, _, rfl, d, .ref l, rfl, .inl ⟨kvs, _, .inr ⟨od, s2 _ _ upd_same⟩, rfl, hv'.symm⟩, ra, l, xs, rs, grp rs q' xs.length, rfl, ?_, hR.mono (fun _ _ z => z.ts ts), ?_, ?_, ?_, fun H3 s3 => ?_⟩
        · exact up _ _ (fun z => by rw [z, d0] at hra; cases hra) (s' _ _ hra)
        · exact up _ _ (ne_of hl3 B.at_ (by intro z; cases z)) hl3
        · have := grp_len rs q' xs.length
          have := hR.1
          omega
        · exact grp_clean hp q' (Nat.le_of_eq hR.1)
        · refine ⟨_, rfl, rfl, _, rfl, ?_⟩
          rw [decide_eq_true rfl]
          exact iteF (iteF ⟨s2.trans s3, _, _, rfl⟩)
      · rintro σ H2 ⟨s2, v5, v6, rfl⟩
        refine ⟨s2 _ _ upd_same, _, rfl, q _ fun b o e => ?_⟩
        have nb : b ≠ d := fun z => by rw [z, d0] at e; cases e
        rw [upd_ne nb]
        exact s2 _ _ (by rw [upd_ne nb]; exact s' _ _ e)
end
end Bs

/-! _table_of -/
namespace Bs
open PySem L2
def HasWr (rs : List Row) (q : Int) : Prop := ∃ r ∈ rs, r.st = q ∧ isWr r
/-- what the inner dict of the state q holds -/
def Inn (H : Hp) (rs : List Row) (q : Int) (kk : List (List Key × V)) : Prop :=
  (∀ r0 r1 w0 w1 n, Row.wr q r0 r1 w0 w1 n ∈ rs → ∃ e x, valV kk [.inl r0, .inl r1] = some (.ref e) ∧ H e = some (.tup [x, .int n]) ∧ IT H x [w0, w1]) ∧
  (∀ r0 r1, (∀ w0 w1 n, Row.wr q r0 r1 w0 w1 n ∉ rs) → valV kk [.inl r0, .inl r1] = none)
/-- the table at d of the rows rs; W: the states whose entry writes, ad: their inner dicts -/
structure TabI (H0 H : Hp) (d : Addr) (rs : List Row) (N : Nat) (kvs : List (Key × V)) (ad : Int → Addr) (W : Int → Prop) : Prop where
  at_ : H d = some (.dK kvs)
  len : kvs.length ≤ N
  no : ∀ q, (∀ r ∈ rs, r.st ≠ q) → ¬ W q → valV kvs (.inl q) = none
  mv : ∀ q d0 d1 n, Row.mv q d0 d1 n ∈ rs → ∃ t x e, valV kvs (.inl q) = some (.ref t) ∧ H t = some (.tup [x, .int n, .ref e]) ∧ IT H x [d0, d1]
  wr : ∀ q, W q → ∃ t kk, valV kvs (.inl q) = some (.ref t) ∧ H t = some (.tup [.non, .non, .ref (ad q)]) ∧ H (ad q) = some (.dT kk) ∧ H0 (ad q) = none ∧ kk.length ≤ N ∧ Inn H rs q kk
  inj : ∀ q q', W q → W q' → ad q = ad q' → q = q'
theorem Inn.ts {H H' : Hp} {rs : List Row} {q : Int} {kk : List (List Key × V)} (k : TS H H') (h : Inn H rs q kk) : Inn H' rs q kk :=
  ⟨fun r0 r1 w0 w1 n hm => let ⟨e, x, h1, h2, h3⟩ := h.1 r0 r1 w0 w1 n hm; ⟨e, x, h1, k _ _ h2, h3.ts k⟩, h.2⟩
theorem TabI.same {H0 H H' : Hp} {d : Addr} {rs : List Row} {N : Nat} {kvs : List (Key × V)} {ad : Int → Addr} {W : Int → Prop} (s : Same H H') (t : TabI H0 H d rs N kvs ad W) : TabI H0 H' d rs N kvs ad W :=
  ⟨s _ _ t.at_, t.len, t.no, fun q d0 d1 n h => let ⟨a, x, e, h1, h2, h3⟩ := t.mv q d0 d1 n h; ⟨a, x, e, h1, s _ _ h2, h3.ts (Same.ts s)⟩,
    fun q h => let ⟨a, kk, h1, h2, h3, h4, h5, h6⟩ := t.wr q h; ⟨a, kk, h1, s _ _ h2, s _ _ h3, h4, h5, h6.ts (Same.ts s)⟩, t.inj⟩
/-- the heap but for the dict at d -/
def But (d : Addr) (H H' : Hp) : Prop := ∀ a o, a ≠ d → H a = some o → H' a = some o
theorem But.ts {d : Addr} {H H' : Hp} (k : But d H H') {o : HO} (h : H d = some o) (n : ∀ xs, o ≠ .tup xs) : TS H H' := fun a xs e => k a _ (fun z => by
  rw [z, h] at e
  exact n xs (Option.some.inj e)) e
theorem TabI.addMv {H0 H H' : Hp} {d : Addr} {rs : List Row} {N : Nat} {kvs : List (Key × V)} {ad : Int → Addr} {W : Int → Prop} (T : TabI H0 H d rs N kvs ad W) {q d0 d1 n : Int} {t e : Addr} {x : V}
    (hq : ∀ r ∈ rs, r.st ≠ q) (hW : ¬ W q) (k : But d H H') (hd : H' d = some (.dK (putK kvs (.inl q) (.ref t)))) (ht : H' t = some (.tup [x, .int n, .ref e])) (hx : IT H' x [d0, d1]) :
    TabI H0 H' d (rs ++ [.mv q d0 d1 n]) (N + 1) (putK kvs (.inl q) (.ref t)) ad W := by
  have ts : TS H H' := k.ts T.at_ (by intro xs z; cases z)
  refine ⟨hd, ?_, fun q' h1 h2 => ?_, fun q' d0' d1' n' hm => ?_, fun q' h => ?_, T.inj⟩
  · have := length_putK kvs (.inl q) (V.ref t)
    have := T.len
    omega
  · have ne : ¬ (Sum.inl q' : Key) = .inl q := fun z => h1 (.mv q d0 d1 n) (List.mem_append.mpr (.inr (List.mem_singleton.mpr rfl))) (Sum.inl.inj z).symm
    rw [valV_put, if_neg ne]
    exact T.no q' (fun r hr => h1 r (List.mem_append.mpr (.inl hr))) h2
  · rcases List.mem_append.mp hm with hm | hm
    · have ne : ¬ (Sum.inl q' : Key) = .inl q := fun z => hq _ hm (Sum.inl.inj z)
      obtain ⟨t', x', e', h1, h2, h3⟩ := T.mv q' d0' d1' n' hm
      refine ⟨t', x', e', ?_, ts _ _ h2, h3.ts ts⟩
      rw [valV_put, if_neg ne]
      exact h1
    · have em := List.mem_singleton.mp hm
      simp only [Row.mv.injEq] at em
      obtain ⟨rfl, rfl, rfl, rfl⟩ := em
      exact ⟨t, x, e, by rw [valV_put, if_pos rfl], ht, hx⟩
  · have ne : ¬ (Sum.inl q' : Key) = .inl q := fun z => hW (by rw [← Sum.inl.inj z]; exact h)
    obtain ⟨t', kk, h1, h2, h3, h4, h5, h6⟩ := T.wr q' h
    have nd : ad q' ≠ d := ne_of h3 T.at_ (by intro z; cases z)
    refine ⟨t', kk, by rw [valV_put, if_neg ne]; exact h1, ts _ _ h2, k _ _ nd h3, h4, by omega, ?_⟩
    obtain ⟨i1, i2⟩ := h6.ts ts
    refine ⟨fun r0 r1 w0 w1 n' hm => ?_, fun r0 r1 hm => i2 r0 r1 fun w0 w1 n' hm' => hm w0 w1 n' (List.mem_append.mpr (.inl hm'))⟩
    rcases List.mem_append.mp hm with hm | hm
    · exact i1 r0 r1 w0 w1 n' hm
    · have em := List.mem_singleton.mp hm
      cases em
theorem TabI.open {H0 H H' : Hp} {d : Addr} {rs : List Row} {N : Nat} {kvs : List (Key × V)} {ad : Int → Addr} {W : Int → Prop} (T : TabI H0 H d rs N kvs ad W) {q : Int} {t e : Addr}
    (hq : ∀ r ∈ rs, r.st ≠ q) (hW : ¬ W q) (k : But d H H') (hd : H' d = some (.dK (putK kvs (.inl q) (.ref t)))) (ht : H' t = some (.tup [.non, .non, .ref e])) (he : H' e = some (.dT [])) (he0 : H0 e = none) (hen : H e = none) :
    TabI H0 H' d rs (N + 1) (putK kvs (.inl q) (.ref t)) (fun q' => if q' = q then e else ad q') (fun q' => q' = q ∨ W q') := by
  have ts : TS H H' := k.ts T.at_ (by intro xs z; cases z)
  refine ⟨hd, ?_, fun q' h1 h2 => ?_, fun q' d0' d1' n' hm => ?_, fun q' h => ?_, fun q1 q2 h1 h2 z => ?_⟩
  · have := length_putK kvs (.inl q) (V.ref t)
    have := T.len
    omega
  · have ne : ¬ (Sum.inl q' : Key) = .inl q := fun z => h2 (.inl (Sum.inl.inj z))
    rw [valV_put, if_neg ne]
    exact T.no q' h1 fun z => h2 (.inr z)
  · have ne : ¬ (Sum.inl q' : Key) = .inl q := fun z => hq _ hm (Sum.inl.inj z)
    obtain ⟨t', x', e', h1, h2, h3⟩ := T.mv q' d0' d1' n' hm
    refine ⟨t', x', e', ?_, ts _ _ h2, h3.ts ts⟩
    rw [valV_put, if_neg ne]
    exact h1
  · by_cases c : q' = q
    · subst c
      rw [if_pos rfl]
      exact ⟨t, [], by rw [valV_put, if_pos rfl], ht, he, he0, Nat.zero_le _, fun r0 r1 w0 w1 n' hm => absurd rfl (hq _ hm), fun _ _ _ => rfl⟩
    · rw [if_neg c]
      have ne : ¬ (Sum.inl q' : Key) = .inl q := fun z => c (Sum.inl.inj z)
      obtain ⟨t', kk, h1, h2, h3, h4, h5, h6⟩ := T.wr q' (h.resolve_left c)
      have nd : ad q' ≠ d := ne_of h3 T.at_ (by intro z; cases z)
      exact ⟨t', kk, by rw [valV_put, if_neg ne]; exact h1, ts _ _ h2, k _ _ nd h3, h4, by omega, h6.ts ts⟩
  · have old : ∀ q', W q' → ad q' ≠ e := fun q' h => by
      obtain ⟨t', kk, h1, h2, h3, _⟩ := T.wr q' h
      exact ne_of_none h3 hen
    by_cases c1 : q1 = q <;> by_cases c2 : q2 = q
    · exact c1.trans c2.symm
    · simp only [if_pos c1, if_neg c2] at z
      exact absurd z.symm (old _ (h2.resolve_left c2))
    · simp only [if_neg c1, if_pos c2] at z
      exact absurd z (old _ (h1.resolve_left c1))
    · simp only [if_neg c1, if_neg c2] at z
      exact T.inj _ _ (h1.resolve_left c1) (h2.resolve_left c2) z
theorem TabI.put {H0 H H' : Hp} {d : Addr} {rs : List Row} {N : Nat} {kvs : List (Key × V)} {ad : Int → Addr} {W : Int → Prop} (T : TabI H0 H d rs N kvs ad W) {q r0 r1 w0 w1 n : Int} {e : Addr} {x : V} {kk : List (List Key × V)}
    (hq : ∀ r ∈ rs, nc r (.wr q r0 r1 w0 w1 n)) (hW : W q) (hk : H (ad q) = some (.dT kk)) (k : But (ad q) H H') (hd : H' (ad q) = some (.dT (putK kk [.inl r0, .inl r1] (.ref e)))) (he : H' e = some (.tup [x, .int n])) (hx : IT H' x [w0, w1]) :
    TabI H0 H' d (rs ++ [.wr q r0 r1 w0 w1 n]) (N + 1) kvs ad W := by
  have ts : TS H H' := k.ts hk (by intro xs z; cases z)
  refine ⟨k _ _ (ne_of T.at_ hk (by intro z; cases z)) T.at_, by have := T.len; omega, fun q' h1 h2 => T.no q' (fun r hr => h1 r (List.mem_append.mpr (.inl hr))) h2, fun q' d0' d1' n' hm => ?_, fun q' h => ?_, T.inj⟩
  · rcases List.mem_append.mp hm with hm | hm
    · obtain ⟨t', x', e', h1, h2, h3⟩ := T.mv q' d0' d1' n' hm
      exact ⟨t', x', e', h1, ts _ _ h2, h3.ts ts⟩
    · have em := List.mem_singleton.mp hm
      cases em
  · obtain ⟨t', k2, h1, h2, h3, h4, h5, h6⟩ := T.wr q' h
    by_cases c : q' = q
    · subst c
      rw [hk] at h3
      obtain rfl : kk = k2 := by
        have z := Option.some.inj h3
        cases z
        rfl
      refine ⟨t', _, h1, ts _ _ h2, hd, h4, ?_, ?_⟩
      · have := length_putK kk [.inl r0, .inl r1] (V.ref e)
        omega
      · obtain ⟨i1, i2⟩ := h6.ts ts
        refine ⟨fun a0 a1 b0 b1 n' hm => ?_, fun a0 a1 hm => ?_⟩
        · rcases List.mem_append.mp hm with hm1 | hm1
          · have ne : ¬ ([.inl a0, .inl a1] : List Key) = [.inl r0, .inl r1] := fun z => by
              have za : a0 = r0 ∧ a1 = r1 := by simpa using z
              exact (show q' = q' → ¬ (a0 = r0 ∧ a1 = r1) from hq _ hm1) rfl za
            rw [valV_put, if_neg ne]
            exact i1 a0 a1 b0 b1 n' hm1
          · have em := List.mem_singleton.mp hm1
            simp only [Row.wr.injEq] at em
            obtain ⟨_, rfl, rfl, rfl, rfl, rfl⟩ := em
            exact ⟨e, x, by rw [valV_put, if_pos rfl], he, hx⟩
        · have ne : ¬ ([.inl a0, .inl a1] : List Key) = [.inl r0, .inl r1] := fun z => by
            obtain ⟨rfl, rfl⟩ : a0 = r0 ∧ a1 = r1 := by simpa using z
            exact hm w0 w1 n (List.mem_append.mpr (.inr (List.mem_singleton.mpr rfl)))
          rw [valV_put, if_neg ne]
          exact i2 a0 a1 fun b0 b1 n' hm' => hm b0 b1 n' (List.mem_append.mpr (.inl hm'))
    · have na : ad q' ≠ ad q := fun z => c (T.inj _ _ h hW z)
      refine ⟨t', k2, h1, ts _ _ h2, k _ _ na h3, h4, by omega, ?_⟩
      obtain ⟨i1, i2⟩ := h6.ts ts
      refine ⟨fun a0 a1 b0 b1 n' hm => ?_, fun a0 a1 hm => i2 a0 a1 fun b0 b1 n' hm' => hm b0 b1 n' (List.mem_append.mpr (.inl hm'))⟩
      rcases List.mem_append.mp hm with hm | hm
      · exact i1 a0 a1 b0 b1 n' hm
      · have em := List.mem_singleton.mp hm
        simp only [Row.wr.injEq] at em
        exact absurd em.1 c
/-- the table of rows that don't clash, read -/
structure TabAt (H : Hp) (d : Addr) (rs : List Row) : Prop where
  ex : ∃ H0 N kvs ad W, TabI H0 H d rs N kvs ad W ∧ ∀ q, W q ↔ HasWr rs q
theorem TabAt.same {H H' : Hp} {d : Addr} {rs : List Row} (s : Same H H') (t : TabAt H d rs) : TabAt H' d rs := by
  obtain ⟨H0, N, kvs, ad, W, h, hw⟩ := t.ex
  exact ⟨H0, N, kvs, ad, W, h.same s, hw⟩
section
variable {P : Program} {w : World} {K : PySem.W.Frag} {mg : Str → Option Value} {base : Heap} {CT CS CH : Addr}
abbrev sTable : Stmt := top 22
def spTable : Sp := fun vs H Q _ => ∃ (ra : Addr) (xs : List V) (rs : List Row), vs = [.ref ra] ∧ H ra = some (.lst xs) ∧ Al (RowA H) xs rs ∧ rs.length ≤ 20000 ∧ rs.Pairwise nc ∧ ∀ H' d, Same H H' → TabAt H' d rs → Q (.ref d) H'
theorem scTable : FnScope ["rows", "found", "row"] ["rows"] (defScope sTable) := ⟨rfl, rfl, rfl, by decide +kernel, rfl, by decide +kernel, by decide +kernel⟩
theorem ok_table (T : Txt K mg CT CS CH) (D : DefF K mg "_table_of" sTable ["rows"]) : OkF P w K mg base 1 "_table_of" ["rows"] spTable := by
  obtain ⟨f, fd, g, b, F⟩ := D
  refine ⟨f, fd, g, F.kp, b, F.ok scTable (fun vs H Q E h => ?_) (fun cdv A outer s0 H vs Q E hr h => ?_)⟩
  · obtain ⟨ra, xs, rs, rfl, _⟩ := h
    rfl
  · obtain ⟨ra, xs, rs, rfl, hra, hR, hl, hp, q⟩ := h
    refine ⟨_, pss_cons (ps_set (i := 1) scTable.nd rfl (Or.inl rfl) pe_dnewK)
      (pss_cons (ps_for PassesOwn.never rfl (pi_list (pv 0)) (pg_name (i := 2) scTable.nd rfl (Or.inl rfl))
        (pss_one (ps_if (pt_cmpR op_eq (pe_ix ix_tup (pv 2) pe_int (fun _ _ => rfl)) pe_str (nomark _))
          (pss_one (ps_dput (hu_of hr) (pv 1) (pe_ix ix_tup (pv 2) pe_int (fun _ _ => rfl)) (pe_tup (pa_cons (pe_ix ix_tup (pv 2) pe_int (fun _ _ => rfl)) (pa_cons (pe_ix ix_tup (pv 2) pe_int (fun _ _ => rfl)) (pa_cons pe_dnewT pa_nil)))) rfl))
          (pss_cons (ps_expr (pe_dsetd (pv 1) (pe_ix ix_tup (pv 2) pe_int (fun _ _ => rfl)) (pe_tup (pa_cons pe_non (pa_cons pe_non (pa_cons pe_dnewT pa_nil)))) ⟨by rfl, by rfl, by rfl, by rfl⟩))
          (pss_one (ps_dput (hu_of hr) (pe_ix ix_tup (pe_dget (hu_of hr) (pv 1) (pe_ix ix_tup (pv 2) pe_int (fun _ _ => rfl)) (fun _ _ => rfl)) pe_int (fun _ _ => rfl)) (pe_ix ix_tup (pv 2) pe_int (fun _ _ => rfl))
            (pe_tup (pa_cons (pe_ix ix_tup (pv 2) pe_int (fun _ _ => rfl)) (pa_cons (pe_ix ix_tup (pv 2) pe_int (fun _ _ => rfl)) pa_nil))) rfl))))))
      (pss_one (ps_ret (pv 1)))), ?_⟩
    intro d hd
    have s1 : Same H (upd H d (.dK [])) := nw hd
    refine ⟨_, rfl, ra, rfl, ⟨_, SqL.of (s1 _ _ hra)⟩, for_list (K := K) (a := ra) (xs := xs) (fun i σ H' => Same H H' ∧ (∃ kvs ad W, TabI H H' d (rs.take i) (2 * i) kvs ad W ∧ ∀ q, W q ↔ HasWr (rs.take i) q) ∧ ∃ v2, σ = [some (.ref ra), some (.ref d), v2])
      ⟨s1, ⟨[], fun _ => 0, fun _ => False, ⟨upd_same, Nat.le_refl _, fun q _ _ => rfl, fun q d0 d1 n h => (by cases h), fun q h => h.elim, fun q q' h => h.elim⟩, fun q => ⟨fun h => h.elim, fun ⟨r, h, _⟩ => (by cases h)⟩⟩, none, rfl⟩
      (fun i σ H' _ h => SqL.of (h.1 _ _ hra)) ?_ ?_⟩
    · rintro i x σ H1 hx ⟨s', ⟨kvs, ad, W, TT, hW⟩, v2, rfl⟩
      obtain ⟨r, hr1, hr2⟩ := hR.of hx
      have hr2 := hr2.ts (Same.ts s')
      have li : i < rs.length := (List.getElem?_eq_some_iff.mp hr1).1
      have tk : rs.take (i + 1) = rs.take i ++ [r] := by
        rw [List.take_add_one, hr1]
        rfl
      have ncr : ∀ r' ∈ rs.take i, nc r' r := fun r' hr' => by
        obtain ⟨j, hj, ej⟩ := List.mem_take_iff_getElem.mp hr'
        have hj2 : j < i := by omega
        have z := List.pairwise_iff_getElem.mp hp j i (by omega) li hj2
        have e2 := (List.getElem?_eq_some_iff.mp hr1).2
        rw [ej, e2] at z
        exact z
      have d0 : H d = none := hd
      cases r with
      | mv q0 e0 e1 n =>
        obtain ⟨a, y, rfl, ha, hy⟩ := hr2
        have hq : ∀ r ∈ rs.take i, r.st ≠ q0 := fun r' hr' => by
          have z := ncr r' hr'
          cases r' <;> exact z
        have hWq : ¬ W q0 := fun z => by
          obtain ⟨r', h1, h2, _⟩ := (hW q0).mp z
          exact hq r' h1 h2
        refine ⟨_, rfl, a, _, _, _, rfl, rfl, SqT.of ha, atI_nat (j := 0) rfl, rfl, _, rfl, ?_⟩
        rw [decide_eq_true rfl]
        refine iteT ?_
        refine ⟨_, rfl, a, _, _, _, rfl, rfl, SqT.of ha, atI_nat (j := 2) rfl, ?_⟩
        refine ⟨_, rfl, a, _, _, _, rfl, rfl, SqT.of ha, atI_nat (j := 3) rfl, fun e he => ?_⟩
        have s2 := nw (o := .dT []) he
        refine ⟨(by show 3 ≤ sizeLine; decide), fun t ht => ?_⟩
        have s3 := nw (o := .tup [y, .int n, .ref e]) ht
        have s23 := s2.trans s3
        have hdt := s23 _ _ TT.at_
        refine ⟨_, rfl, _, rfl, a, _, _, _, rfl, rfl, SqT.of (s23 _ _ ha), atI_nat (j := 1) rfl, d, _, rfl, DPut.k (k := .inl q0) hdt (by have := TT.len; rw [sizeLine_eq]; omega), ?_⟩
        have ndt : t ≠ d := fun z => ne_of_none (s2 _ _ TT.at_) ht z.symm
        refine ⟨ow (s'.trans s23) d0, ⟨putK kvs (.inl q0) (.ref t), ad, W, ?_, fun q' => ?_⟩, _, rfl⟩
        · rw [tk]
          have z := (TT.same s23).addMv (H' := upd (upd (upd H1 e (.dT [])) t (.tup [y, .int n, .ref e])) d (.dK (putK kvs (.inl q0) (.ref t)))) (e := e) (x := y) (d0 := e0) (d1 := e1) (n := n) (t := t) hq hWq (fun b o nb eb => by rw [upd_ne nb]; exact eb) upd_same (by rw [upd_ne ndt, upd_same]) ?_
          · exact ⟨z.at_, by have := z.len; omega, z.no, z.mv, fun q h => let ⟨a, kk, h1, h2, h3, h4, h5, h6⟩ := z.wr q h; ⟨a, kk, h1, h2, h3, h4, by omega, h6⟩, z.inj⟩
          · refine (hy.ts (Same.ts s23)).ts (.up fun ys e => ?_)
            rw [hdt] at e
            cases e
        · rw [hW, tk]
          refine ⟨fun ⟨r', h1, h2, h3⟩ => ⟨r', List.mem_append.mpr (.inl h1), h2, h3⟩, fun ⟨r', h1, h2, h3⟩ => ?_⟩
          rcases List.mem_append.mp h1 with h1 | h1
          · exact ⟨r', h1, h2, h3⟩
          · rw [List.mem_singleton.mp h1] at h3
            exact h3.elim
      | wr q0 r0 r1 w0 w1 n =>
        obtain ⟨a, y, y2, rfl, ha, hy, hy2⟩ := hr2
        refine ⟨_, rfl, a, _, _, _, rfl, rfl, SqT.of ha, atI_nat (j := 0) rfl, rfl, _, rfl, ?_⟩
        rw [decide_eq_false (by intro z; exact absurd (V.str.inj z) (by decide +kernel))]
        refine iteF ?_
        refine ⟨_, rfl, d, rfl, .inl ⟨kvs, .inl TT.at_⟩, _, rfl, a, _, _, _, rfl, rfl, SqT.of ha, atI_nat (j := 1) rfl, fun e he => ?_⟩
        have s2 := nw (o := .dT []) he
        refine ⟨(by show 3 ≤ sizeLine; decide), fun t ht => ?_⟩
        have s3 := nw (o := .tup [.non, .non, .ref e]) ht
        have s23 := s2.trans s3
        have hdt := s23 _ _ TT.at_
        -- what follows, from any table whose entry for q0 writes
        have fin : ∀ (H2 : Hp) (kvs2 : List (Key × V)) (ad2 : Int → Addr) (W2 : Int → Prop), Same H H2 → TS H1 H2 → TabI H H2 d (rs.take i) (2 * i + 1) kvs2 ad2 W2 → W2 q0 → (∀ q', W2 q' ↔ q' = q0 ∨ W q') →
            sDPut (tOp (rIxT K) (tDGet (tVar 1) (tOp (rIxT K) (tVar 2) (tC (.int 1)))) (tC (.int 2))) (tOp (rIxT K) (tVar 2) (tC (.int 2))) (tTup (tCons (tOp (rIxT K) (tVar 2) (tC (.int 3))) (tCons (tOp (rIxT K) (tVar 2) (tC (.int 4))) tNil)))
              { nx := fun σ H' => Same H H' ∧ (∃ kvs ad W, TabI H H' d (rs.take (i + 1)) (2 * (i + 1)) kvs ad W ∧ ∀ q, W q ↔ HasWr (rs.take (i + 1)) q) ∧ ∃ v2, σ = [some (.ref ra), some (.ref d), v2], rt := Q, bk := fun σ H' => tRet (tVar 1) { nx := fun _ H' => Q .non H', rt := Q } σ H',
                ct := fun σ H' => Same H H' ∧ (∃ kvs ad W, TabI H H' d (rs.take (i + 1)) (2 * (i + 1)) kvs ad W ∧ ∀ q, W q ↔ HasWr (rs.take (i + 1)) q) ∧ ∃ v2, σ = [some (.ref ra), some (.ref d), v2] }
              [some (.ref ra), some (.ref d), some (.ref a)] H2 := by
          intro H2 kvs2 ad2 W2 s4 t4 T2 hq2 hW2
          have ha2 := t4 _ _ ha
          refine ⟨_, rfl, a, _, _, _, rfl, rfl, SqT.of ha2, atI_nat (j := 3) rfl, ?_⟩
          refine ⟨_, rfl, a, _, _, _, rfl, rfl, SqT.of ha2, atI_nat (j := 4) rfl, (by show 2 ≤ sizeLine; decide), fun u hu => ?_⟩
          have s5 := nw (o := .tup [y2, .int n]) hu
          have T3 := T2.same s5
          obtain ⟨t2, kk, h1, h2, h3, h4, h5, h6⟩ := T3.wr q0 hq2
          have hy' := hy.ts (t4.trans (Same.ts s5))
          obtain ⟨b1, rfl, hb1⟩ := hy'
          refine ⟨_, rfl, _, rfl, a, _, _, _, rfl, rfl, SqT.of (s5 _ _ ha2), atI_nat (j := 1) rfl, d, .ref t2, rfl, ?_, t2, _, _, _, rfl, rfl, SqT.of h2, atI_nat (j := 2) rfl, ?_⟩
          · rw [← h1]
            exact DGet.k (k := .inl q0) T3.at_
          refine ⟨_, rfl, a, _, _, _, rfl, rfl, SqT.of (s5 _ _ ha2), atI_nat (j := 2) rfl, ad2 q0, _, rfl, DPut.t (k := [.inl r0, .inl r1]) h3 hb1 (by rw [sizeLine_eq]; omega), ?_⟩
          have nu : u ≠ ad2 q0 := fun z => by
            have := ne_of_none (show H2 (ad2 q0) = some (.dT kk) from ?_) hu
            · exact this z.symm
            · obtain ⟨_, k3, _, _, g3, _⟩ := T2.wr q0 hq2
              have := s5 _ _ g3
              rw [h3] at this
              cases this
              exact g3
          have z := T3.put (H' := upd (upd H2 u (.tup [y2, .int n])) (ad2 q0) (.dT (putK kk [.inl r0, .inl r1] (.ref u)))) (e := u) (x := y2) (w0 := w0) (w1 := w1) (n := n) ncr hq2 h3 (fun b o nb eb => by rw [upd_ne nb]; exact eb) upd_same (by rw [upd_ne nu, upd_same]) ?_
          · refine ⟨ow (s4.trans s5) h4, ⟨kvs2, ad2, W2, ?_, fun q' => ?_⟩, _, rfl⟩
            · rw [tk]
              exact z
            · rw [hW2, hW, tk]
              refine ⟨fun h => ?_, fun ⟨r', g1, g2, g3⟩ => ?_⟩
              · rcases h with h | ⟨r', g1, g2, g3⟩
                · exact ⟨.wr q0 r0 r1 w0 w1 n, List.mem_append.mpr (.inr (List.mem_singleton.mpr rfl)), h.symm, True.intro⟩
                · exact ⟨r', List.mem_append.mpr (.inl g1), g2, g3⟩
              · rcases List.mem_append.mp g1 with g1 | g1
                · exact .inr ⟨r', g1, g2, g3⟩
                · rw [List.mem_singleton.mp g1] at g2
                  exact .inl g2.symm
          · refine ((hy2.ts (t4.trans (Same.ts s5)))).ts (.up fun ys e => ?_)
            rw [h3] at e
            cases e
        refine ⟨kvs, .inl q0, hdt, rfl, by have := TT.len; rw [sizeLine_eq]; omega, fun v hv => ?_, fun hv => ?_⟩
        · have hWq : W q0 := by
            refine Classical.byContradiction fun c => ?_
            have hno : ∀ r ∈ rs.take i, r.st ≠ q0 := fun r' hr' e => by
              have z := ncr r' hr'
              cases r' with
              | mv a1 a2 a3 a4 => exact z e
              | wr a1 a2 a3 a4 a5 a6 => exact c ((hW q0).mpr ⟨_, hr', e, True.intro⟩)
            rw [TT.no q0 hno c] at hv
            cases hv
          have T2 := TT.same s23
          refine fin _ kvs ad W (s'.trans s23) (Same.ts s23) ⟨T2.at_, by have := T2.len; omega, T2.no, T2.mv, fun q h => let ⟨a, kk, h1, h2, h3, h4, h5, h6⟩ := T2.wr q h; ⟨a, kk, h1, h2, h3, h4, by omega, h6⟩, T2.inj⟩ hWq fun q' => ⟨.inr, fun h => ?_⟩
          rcases h with h | h
          · rw [h]
            exact hWq
          · exact h
        · have hWq : ¬ W q0 := fun z => by
            obtain ⟨t', kk, h1, _⟩ := TT.wr q0 z
            rw [h1] at hv
            cases hv
          have hno : ∀ r ∈ rs.take i, r.st ≠ q0 := fun r' hr' e => by
            have z := ncr r' hr'
            cases r' with
            | mv a1 a2 a3 a4 => exact z e
            | wr a1 a2 a3 a4 a5 a6 => exact hWq ((hW q0).mpr ⟨_, hr', e, True.intro⟩)
          have ndt : t ≠ d := fun z => ne_of_none (s2 _ _ TT.at_) ht z.symm
          have nde : e ≠ d := fun z => ne_of_none TT.at_ he z.symm
          have net : e ≠ t := ne_of_none (show (upd H1 e (.dT [])) e = some (.dT []) from upd_same) ht
          have z := (TT).open (H' := upd (upd (upd H1 e (.dT [])) t (.tup [.non, .non, .ref e])) d (.dK (putK kvs (.inl q0) (.ref t)))) (e := e) (t := t) hno hWq (fun b o nb eb => by rw [upd_ne nb]; exact s23 _ _ eb) upd_same (by rw [upd_ne ndt, upd_same]) (by rw [upd_ne nde, upd_ne net, upd_same]) (s'.free he) he
          refine fin _ _ _ _ (ow (s'.trans s23) d0) ((Same.ts s23).trans (.up fun ys e => ?_)) z (.inl rfl) fun q' => Iff.rfl
          rw [hdt] at e
          cases e
    · rintro σ H1 ⟨s', ⟨kvs, ad, W, TT, hW⟩, v2, rfl⟩
      rw [hR.1, List.take_length] at TT hW
      exact ⟨_, rfl, q _ _ s' ⟨_, _, _, _, _, TT, hW⟩⟩
end
end Bs

/-! _taken, _run -/
namespace Bs
open PySem L2
theorem pair_or {rs : List Row} (p : rs.Pairwise nc) {a b : Row} (ha : a ∈ rs) (hb : b ∈ rs) : a = b ∨ nc a b ∨ nc b a := by
  obtain ⟨i, hi, ei⟩ := List.getElem_of_mem ha
  obtain ⟨j, hj, ej⟩ := List.getElem_of_mem hb
  have q := List.pairwise_iff_getElem.mp p
  rcases Nat.lt_trichotomy i j with l | l | l
  · have z := q i j hi hj l
    rw [ei, ej] at z
    exact .inr (.inl z)
  · subst l
    exact .inl (ei.symm.trans ej)
  · have z := q j i hj hi l
    rw [ei, ej] at z
    exact .inr (.inr z)
theorem tab_cases {H : Hp} {d : Addr} {rs : List Row} (t : TabAt H d rs) (p : rs.Pairwise nc) (c : LC) : ∃ kvs, H d = some (.dK kvs) ∧
    ((valV kvs (.inl c.q) = none ∧ stepR rs c = none) ∨
     (∃ t x e d0 d1 n, valV kvs (.inl c.q) = some (.ref t) ∧ H t = some (.tup [x, .int n, .ref e]) ∧ IT H x [d0, d1] ∧ stepR rs c = some ⟨n, mvT d0 c.t0, mvT d1 c.t1⟩) ∨
     (∃ t i kk, valV kvs (.inl c.q) = some (.ref t) ∧ H t = some (.tup [.non, .non, .ref i]) ∧ H i = some (.dT kk) ∧
       ((valV kk [.inl c.t0.m, .inl c.t1.m] = none ∧ stepR rs c = none) ∨
        ∃ e x w0 w1 n, valV kk [.inl c.t0.m, .inl c.t1.m] = some (.ref e) ∧ H e = some (.tup [x, .int n]) ∧ IT H x [w0, w1] ∧ stepR rs c = some ⟨n, ⟨c.t0.l, w0, c.t0.r⟩, ⟨c.t1.l, w1, c.t1.r⟩⟩))) := by
  obtain ⟨H0, N, kvs, ad, W, T, hW⟩ := t.ex
  refine ⟨kvs, T.at_, ?_⟩
  by_cases h1 : ∃ r ∈ rs, r.st = c.q
  · obtain ⟨r, hr, er⟩ := h1
    cases r with
    | mv q d0 d1 n =>
      have er : q = c.q := er
      subst er
      obtain ⟨t, x, e, h2, h3, h4⟩ := T.mv _ _ _ _ hr
      exact .inr (.inl ⟨t, x, e, d0, d1, n, h2, h3, h4, step_mem p hr (by simp [app])⟩)
    | wr q r0 r1 w0 w1 n =>
      have er : q = c.q := er
      subst er
      obtain ⟨t, kk, h2, h3, h4, h5, h6, h7⟩ := T.wr c.q ((hW _).mpr ⟨_, hr, rfl, True.intro⟩)
      refine .inr (.inr ⟨t, ad c.q, kk, h2, h3, h4, ?_⟩)
      by_cases h8 : ∃ w0 w1 n, Row.wr c.q c.t0.m c.t1.m w0 w1 n ∈ rs
      · obtain ⟨v0, v1, n', hm⟩ := h8
        obtain ⟨e, x, g1, g2, g3⟩ := h7.1 _ _ _ _ _ hm
        exact .inr ⟨e, x, v0, v1, n', g1, g2, g3, step_mem p hm (by simp [app])⟩
      · refine .inl ⟨h7.2 _ _ fun v0 v1 n' hm => h8 ⟨v0, v1, n', hm⟩, step_none fun r' hr' ha => ?_⟩
        cases r' with
        | wr q' a0 a1 b0 b1 n' =>
          simp only [app, decide_eq_true_eq] at ha
          obtain ⟨rfl, rfl, rfl⟩ := ha
          exact h8 ⟨b0, b1, n', hr'⟩
        | mv q' e0 e1 n' =>
          simp only [app, decide_eq_true_eq] at ha
          rcases pair_or p hr hr' with z | z | z
          · cases z
          · exact z ha.symm
          · exact z ha
  · have h1 : ∀ r ∈ rs, r.st ≠ c.q := fun r hr e => h1 ⟨r, hr, e⟩
    refine .inl ⟨T.no _ h1 fun w => ?_, step_none fun r hr ha => h1 r hr ?_⟩
    · obtain ⟨r, hr, e, _⟩ := (hW _).mp w
      exact h1 r hr e
    · cases r with
      | wr q a0 a1 b0 b1 n =>
        simp only [app, decide_eq_true_eq] at ha
        exact ha.1
      | mv q e0 e1 n =>
        simp only [app, decide_eq_true_eq] at ha
        exact ha
/-- a step's answer -/
def ResA (H : Hp) (u : V) (o : Option LC) : Prop := match o with
  | none => u = .non
  | some c => LCA H u c
section
variable {P : Program} {w : World} {K : PySem.W.Frag} {mg : Str → Option Value} {base : Heap} {CT CS CH : Addr}
abbrev sTaken : Stmt := top 24
def spTaken : Sp := fun vs H Q _ => ∃ (d : Addr) (rs : List Row) (v : V) (c : LC), vs = [.ref d, v] ∧ TabAt H d rs ∧ rs.Pairwise nc ∧ LCA H v c ∧ c.wt ≤ 1000000 ∧ ∀ H' u, Same H H' → ResA H' u (stepR rs c) → Q u H'
theorem scTaken : FnScope ["table", "configuration", "state", "tapes", "moves", "following", "writing", "entry", "tape", "move", "mark"] ["table", "configuration"] (defScope sTaken) := ⟨rfl, rfl, rfl, by decide +kernel, rfl, by decide +kernel, by decide +kernel⟩
theorem two_of {acc : List V} (h : acc.length = 2) : ∃ a b, acc = [a, b] := by
  match acc, h with
  | [a, b], _ => exact ⟨a, b, rfl⟩
theorem ok_taken (T : Txt K mg CT CS CH) (D : DefF K mg "_taken" sTaken ["table", "configuration"]) (M : OkF P w K mg base 2 "moved_tape" ["tape", "move"] spMoved) : OkF P w K mg base 3 "_taken" ["table", "configuration"] spTaken := by
  obtain ⟨f, fd, g, b, F⟩ := D
  obtain ⟨fM, fdM, gM, kM, bM, GM⟩ := M
  refine ⟨f, fd, g, F.kp, b, F.ok scTaken (fun vs H Q E h => ?_) (fun cdv A outer s0 H vs Q E hr h => ?_)⟩
  · obtain ⟨d, rs, v, c, rfl, _⟩ := h
    rfl
  · obtain ⟨d, rs, v, c, rfl, hT, hp, hC, hw, q⟩ := h
    refine ⟨_, pss_cons (ps_asg (pv 1) (pg_tup (by rfl) (pgs_cons (pg_name (i := 2) scTaken.nd rfl (Or.inl rfl)) (pgs_cons (pg_name (i := 3) scTaken.nd rfl (Or.inl rfl)) pgs_nil))))
      (pss_cons (ps_if (pt_cmp (pc_dnotin (hu_of hr) (pv 2) (pv 0)) (by rfl)) (pss_one (ps_ret pe_non)) pss_nil)
      (pss_cons (ps_asg (pe_dget (hu_of hr) (pv 0) (pv 2) (fun _ _ => rfl)) (pg_tup (by rfl) (pgs_cons (pg_name (i := 4) scTaken.nd rfl (Or.inl rfl)) (pgs_cons (pg_name (i := 5) scTaken.nd rfl (Or.inl rfl)) (pgs_cons (pg_name (i := 6) scTaken.nd rfl (Or.inl rfl)) pgs_nil)))))
      (pss_cons (ps_if (pt_cmpR op_notN (pv 4) pe_non (nomark _))
        (pss_one (ps_ret (pe_tup (pa_cons (pv 5) (pa_cons (pe_callTy call_tuple_of (by rfl) T.tuple bTuple (pa_cons
          (pe_lc (own := [("tape", 8), ("move", 9)]) (g := gTup K 2 (gCons (gName 8) (gCons (gName 9) gNil))) (tt := tYes) (te := tCall spMoved [] E0 (tCons (tVar 8) (tCons (tVar 9) tNil))) rfl scTaken.nd (RZ.pi_zipA (by rfl) T.zip (pa_cons (pv 3) (pa_cons (pv 4) pa_nil)))
            (blkOk_by (N := ["table", "configuration", "state", "tapes", "moves", "following", "writing", "entry", "tape", "move", "mark"]) (sc := defScope sTaken) (by decide +kernel))
            (fun _ _ _ _ _ => pg_tup rfl (pgs_cons (pg_name (i := 8) scTaken.nd rfl (Or.inl rfl)) (pgs_cons (pg_name (i := 9) scTaken.nd rfl (Or.inl rfl)) pgs_nil))) (fun _ _ _ _ _ => pts_nil)
            (fun _ _ _ _ _ => pe_call GM hr (by rfl) gM kM bM .nil pass0 (pa_cons (pv 8) (pa_cons (pv 9) pa_nil)))) pa_nil)) pa_nil))))) pss_nil)
      (pss_cons (ps_set (i := 7) scTaken.nd rfl (Or.inl rfl) (pe_dget1 (hu_of hr) (pv 6) (pe_callTy call_tuple_of (by rfl) T.tuple bTuple (pa_cons
          (pe_lc (own := [("tape", 8)]) (g := gName 8) (tt := tYes) (te := tOp (rIxT K) (tVar 8) (tC (.int 1))) rfl scTaken.nd (pi_tup (pv 3))
            (blkOk_by (N := ["table", "configuration", "state", "tapes", "moves", "following", "writing", "entry", "tape", "move", "mark"]) (sc := defScope sTaken) (by decide +kernel))
            (fun _ _ _ _ _ => pg_name (i := 8) scTaken.nd rfl (Or.inl rfl)) (fun _ _ _ _ _ => pts_nil) (fun _ _ _ _ _ => pe_ix ix_tup (pv 8) pe_int (fun _ _ => rfl))) pa_nil)) ⟨by rfl, by rfl, by rfl, by rfl⟩))
      (pss_cons (ps_if (pt_cmpR op_isN (pv 7) pe_non (nomark _)) (pss_one (ps_ret pe_non)) pss_nil)
      (pss_one (ps_ret (pe_tup (pa_cons (pe_ix ix_tup (pv 7) pe_int (fun _ _ => rfl)) (pa_cons (pe_callTy call_tuple_of (by rfl) T.tuple bTuple (pa_cons
          (pe_lc (own := [("tape", 8), ("mark", 10)]) (g := gTup K 2 (gCons (gName 8) (gCons (gName 10) gNil))) (tt := tYes) (te := tTup (tCons (tOp (rIxT K) (tVar 8) (tC (.int 0))) (tCons (tVar 10) (tCons (tOp (rIxT K) (tVar 8) (tC (.int 2))) tNil)))) rfl scTaken.nd (RZ.pi_zipA (by rfl) T.zip (pa_cons (pv 3) (pa_cons (pe_ix ix_tup (pv 7) pe_int (fun _ _ => rfl)) pa_nil)))
            (blkOk_by (N := ["table", "configuration", "state", "tapes", "moves", "following", "writing", "entry", "tape", "move", "mark"]) (sc := defScope sTaken) (by decide +kernel))
            (fun _ _ _ _ _ => pg_tup rfl (pgs_cons (pg_name (i := 8) scTaken.nd rfl (Or.inl rfl)) (pgs_cons (pg_name (i := 10) scTaken.nd rfl (Or.inl rfl)) pgs_nil))) (fun _ _ _ _ _ => pts_nil)
            (fun _ _ _ _ _ => pe_tup (pa_cons (pe_ix ix_tup (pv 8) pe_int (fun _ _ => rfl)) (pa_cons (pv 10) (pa_cons (pe_ix ix_tup (pv 8) pe_int (fun _ _ => rfl)) pa_nil))))) pa_nil)) pa_nil)))))))))), ?_⟩
    obtain ⟨a, b2, x, y, rfl, ha, hb, hx, hy⟩ := hC
    have hw : c.t0.wt + c.t1.wt ≤ 1000000 := hw
    refine ⟨_, rfl, a, _, rfl, SqT.of ha, rfl, _, _, rfl, _, _, rfl, rfl, ?_⟩
    obtain ⟨kvs, hd, hc⟩ := tab_cases hT hp c
    refine ⟨_, rfl, _, rfl, d, _, rfl, DGet.k (k := .inl c.q) hd, _, rfl, ?_⟩
    rcases hc with ⟨h1, h2⟩ | ⟨t, z, e, d0, d1, n, h1, h2, h3, h4⟩ | ⟨t, i, kk, h1, h2, h3, h4⟩
    · rw [h1]
      rw [h2] at q
      exact iteT (q _ _ (.refl _) rfl)
    · rw [h1]
      rw [h4] at q
      refine iteF ?_
      obtain ⟨z1, rfl, hz1⟩ := h3
      refine ⟨_, rfl, _, rfl, d, .ref t, rfl, by rw [← h1]; exact DGet.k (k := .inl c.q) hd, t, _, rfl, SqT.of h2, rfl, _, _, rfl, _, _, rfl, _, _, rfl, rfl, ?_⟩
      refine ⟨_, rfl, rfl, _, rfl, ?_⟩
      rw [decide_eq_false (by intro z; cases z)]
      refine iteT ?_
      refine ⟨_, rfl, _, rfl, _, rfl, b2, z1, _, _, rfl, .inr ⟨SqT.of hb, SqT.of hz1, fun L hL => ?_⟩⟩
      refine lc_mapR (walk_zipT (n := 2) rfl) (fun j v H => TpA H v (if j = 0 then mvT d0 c.t0 else mvT d1 c.t1)) hL (by decide) (fun j v H1 H2 k r => r.ts k) (fun H1 s => ⟨SqT.of (s _ _ hb), SqT.of (s _ _ hz1)⟩) yPair_same ?_ ?_
      · rintro j v H1 H1' NX lt s ⟨u, v1, v2, rfl, hu, rfl, e1, e2⟩ k
        have su := nw (o := .tup [v1, v2]) hu
        have ts := Same.ts (s.trans su)
        match j, lt, e1, e2, k with
        | 0, _, e1, e2, k =>
          have e1 : x = v1 := Option.some.inj e1
          have e2 : V.int d0 = v2 := Option.some.inj e2
          subst e1 e2
          refine ⟨u, _, rfl, SqT.of upd_same, rfl, _, _, rfl, _, _, rfl, rfl, rfl, _, rfl, _, rfl, x, c.t0, d0, rfl, hx.ts ts, by omega, fun H4 u4 s4 h4 => k _ _ s4 h4⟩
        | 1, _, e1, e2, k =>
          have e1 : y = v1 := Option.some.inj e1
          have e2 : V.int d1 = v2 := Option.some.inj e2
          subst e1 e2
          refine ⟨u, _, rfl, SqT.of upd_same, rfl, _, _, rfl, _, _, rfl, rfl, rfl, _, rfl, _, rfl, y, c.t1, d1, rfl, hy.ts ts, by omega, fun H4 u4 s4 h4 => k _ _ s4 h4⟩
      · intro H1 acc s eD la r
        obtain ⟨v0, v1, rfl⟩ := two_of la
        refine ⟨L, _, rfl, .inl ⟨SqL.of eD, fun u hu => ⟨(by show 2 ≤ sizeLine; decide), fun u2 hu2 => ?_⟩⟩⟩
        have s2 := nw (o := .tup [v0, v1]) hu
        have s3 := nw (o := .tup [.int n, .ref u]) hu2
        exact q _ _ ((s.trans s2).trans s3) ⟨u2, u, v0, v1, rfl, upd_same, s3 _ _ upd_same, (r 0 v0 rfl).ts (Same.ts (s2.trans s3)), (r 1 v1 rfl).ts (Same.ts (s2.trans s3))⟩
    · rw [h1]
      refine iteF ?_
      refine ⟨_, rfl, _, rfl, d, .ref t, rfl, by rw [← h1]; exact DGet.k (k := .inl c.q) hd, t, _, rfl, SqT.of h2, rfl, _, _, rfl, _, _, rfl, _, _, rfl, rfl, ?_⟩
      refine ⟨_, rfl, rfl, _, rfl, ?_⟩
      rw [decide_eq_true rfl]
      refine iteF ?_
      obtain ⟨ax, x1, x2, rfl, hax, hx1, hx2⟩ := id hx
      obtain ⟨ay, y1, y2, rfl, hay, hy1, hy2⟩ := id hy
      refine ⟨_, rfl, i, rfl, .inr ⟨kk, .inl h3⟩, _, rfl, b2, rfl, ⟨_, SqT.of hb⟩, fun L hL => ?_⟩
      refine lc_mapR walk_tup (fun j v _ => v = .int (([c.t0.m, c.t1.m] : List Int).getD j 0)) hL (by show 2 ≤ sizeLine; decide) (fun _ _ _ _ _ h => h) (fun H' s => SqT.of (s _ _ hb)) yAt_same ?_ ?_
      · rintro j v H1 H1' NX lt s ⟨rfl, hv⟩ k
        match j, lt, hv, k with
        | 0, _, hv, k =>
          have ev : V.ref ax = v := Option.some.inj hv
          subst ev
          exact ⟨rfl, _, rfl, ax, _, _, _, rfl, rfl, SqT.of (s _ _ hax), atI_nat (j := 1) rfl, k _ _ (.refl _) rfl⟩
        | 1, _, hv, k =>
          have ev : V.ref ay = v := Option.some.inj hv
          subst ev
          exact ⟨rfl, _, rfl, ay, _, _, _, rfl, rfl, SqT.of (s _ _ hay), atI_nat (j := 1) rfl, k _ _ (.refl _) rfl⟩
      · intro H1 acc s eD la r
        have ea := acc_eq (f := fun i => V.int (([c.t0.m, c.t1.m] : List Int).getD i 0)) la r
        have ea : acc = [.int c.t0.m, .int c.t1.m] := ea
        subst ea
        refine ⟨L, _, rfl, .inl ⟨SqL.of eD, fun u hu => ?_⟩⟩
        have s2 := nw (o := .tup [.int c.t0.m, .int c.t1.m]) hu
        have s12 := s.trans s2
        refine ⟨_, DGet.t (k := [.inl c.t0.m, .inl c.t1.m]) (s12 _ _ h3) upd_same, ?_⟩
        rcases h4 with ⟨g1, g2⟩ | ⟨e, z, w0, w1, n, g1, g2, g3, g4⟩
        · rw [g1, Option.getD_none]
          rw [g2] at q
          refine ⟨_, rfl, rfl, _, rfl, ?_⟩
          rw [decide_eq_true rfl]
          exact iteT (q _ _ s12 rfl)
        · rw [g1, Option.getD_some]
          rw [g4] at q
          refine ⟨_, rfl, rfl, _, rfl, ?_⟩
          rw [decide_eq_false (by intro z; cases z)]
          refine iteF ?_
          obtain ⟨z1, rfl, hz1⟩ := g3
          have ge := s12 _ _ g2
          have gz := s12 _ _ hz1
          have gb := s12 _ _ hb
          refine ⟨_, rfl, e, _, _, _, rfl, rfl, SqT.of ge, atI_nat (j := 1) rfl, ?_⟩
          refine ⟨_, rfl, _, rfl, e, _, _, _, rfl, rfl, SqT.of ge, atI_nat (j := 0) rfl, b2, z1, _, _, rfl, .inr ⟨SqT.of gb, SqT.of gz, fun L2 hL2 => ?_⟩⟩
          refine lc_mapR (walk_zipT (n := 2) rfl) (fun j v H => TpA H v (if j = 0 then ⟨c.t0.l, w0, c.t0.r⟩ else ⟨c.t1.l, w1, c.t1.r⟩)) hL2 (by decide) (fun j v H1 H2 k r => r.ts k) (fun H1 s => ⟨SqT.of (s _ _ gb), SqT.of (s _ _ gz)⟩) yPair_same ?_ ?_
          · rintro j v H2 H2' NX lt s5 ⟨u5, v1, v2, rfl, hu5, rfl, e1, e2⟩ k
            have su := nw (o := .tup [v1, v2]) hu5
            have sa := s12.trans (s5.trans su)
            match j, lt, e1, e2, k with
            | 0, _, e1, e2, k =>
              have e1 : V.ref ax = v1 := Option.some.inj e1
              have e2 : V.int w0 = v2 := Option.some.inj e2
              subst e1 e2
              refine ⟨u5, _, rfl, SqT.of upd_same, rfl, _, _, rfl, _, _, rfl, rfl, rfl, _, rfl, ax, _, _, _, rfl, rfl, SqT.of (sa _ _ hax), atI_nat (j := 0) rfl, _, rfl, _, rfl, ax, _, _, _, rfl, rfl, SqT.of (sa _ _ hax), atI_nat (j := 2) rfl, (by show 3 ≤ sizeLine; decide), fun u6 hu6 => ?_⟩
              have s6 := nw (o := .tup [x1, .int w0, x2]) hu6
              exact k _ _ s6 ⟨u6, x1, x2, rfl, upd_same, hx1.ts (Same.ts (sa.trans s6)), hx2.ts (Same.ts (sa.trans s6))⟩
            | 1, _, e1, e2, k =>
              have e1 : V.ref ay = v1 := Option.some.inj e1
              have e2 : V.int w1 = v2 := Option.some.inj e2
              subst e1 e2
              refine ⟨u5, _, rfl, SqT.of upd_same, rfl, _, _, rfl, _, _, rfl, rfl, rfl, _, rfl, ay, _, _, _, rfl, rfl, SqT.of (sa _ _ hay), atI_nat (j := 0) rfl, _, rfl, _, rfl, ay, _, _, _, rfl, rfl, SqT.of (sa _ _ hay), atI_nat (j := 2) rfl, (by show 3 ≤ sizeLine; decide), fun u6 hu6 => ?_⟩
              have s6 := nw (o := .tup [y1, .int w1, y2]) hu6
              exact k _ _ s6 ⟨u6, y1, y2, rfl, upd_same, hy1.ts (Same.ts (sa.trans s6)), hy2.ts (Same.ts (sa.trans s6))⟩
          · intro H2 acc s5 eD5 la5 r5
            obtain ⟨v0, v1, rfl⟩ := two_of la5
            refine ⟨L2, _, rfl, .inl ⟨SqL.of eD5, fun u3 hu3 => ⟨(by show 2 ≤ sizeLine; decide), fun u4 hu4 => ?_⟩⟩⟩
            have s6 := nw (o := .tup [v0, v1]) hu3
            have s7 := nw (o := .tup [.int n, .ref u3]) hu4
            exact q _ _ (((s12.trans s5).trans s6).trans s7) ⟨u4, u3, v0, v1, rfl, upd_same, s7 _ _ upd_same, (r5 0 v0 rfl).ts (Same.ts (s6.trans s7)), (r5 1 v1 rfl).ts (Same.ts (s6.trans s7))⟩
end
end Bs

/-! _run, the methods of Several -/
namespace Bs
open PySem L2
/-- a Several with the rows rs, as its methods read it -/
structure SevO (CS : Addr) (H : Hp) (p : Addr) (rs : List Row) : Prop where
  ex : ∃ dx fs d1 d2, H p = some (.ins CS dx fs) ∧ fs.lookup ("_back_clash" : Str) = some .non ∧ fs.lookup ("_by_state" : Str) = some (.ref d1) ∧ fs.lookup ("_by_next" : Str) = some (.ref d2) ∧
    (∀ g : Str, ¬ g = "tapes" → ¬ g = "marks" → ¬ g = "states" → ¬ g = "_rows" → ¬ g = "_back_clash" → ¬ g = "_by_state" → ¬ g = "_by_next" → fs.lookup g = none) ∧ TabAt H d1 rs ∧ TabAt H d2 (rs.map bk)
  fw : rs.Pairwise nc
  bw : (rs.map bk).Pairwise nc
theorem SevO.same {CS : Addr} {H H' : Hp} {p : Addr} {rs : List Row} (s : Same H H') (t : SevO CS H p rs) : SevO CS H' p rs := by
  obtain ⟨dx, fs, d1, d2, h1, h2, h3, h4, h5, h6, h7⟩ := t.ex
  exact ⟨⟨dx, fs, d1, d2, s _ _ h1, h2, h3, h4, h5, h6.same s, h7.same s⟩, t.fw, t.bw⟩
/-- a pair of a configuration and a number -/
def RunA (H : Hp) (u : V) (c : LC) (n : Nat) : Prop := ∃ a x, u = .ref a ∧ H a = some (.tup [x, .int (n : Nat)]) ∧ LCA H x c
section
variable {P : Program} {w : World} {K : PySem.W.Frag} {mg : Str → Option Value} {base : Heap} {CT CS CH : Addr}
abbrev sRun : Stmt := top 25
def spRun : Sp := fun vs H Q _ => ∃ (d : Addr) (rs : List Row) (v : V) (c c' : LC) (n : Nat), vs = [.ref d, v, .int (n : Nat)] ∧ TabAt H d rs ∧ rs.Pairwise nc ∧ LCA H v c ∧ c.wt + 2 * n ≤ 1000000 ∧ iter rs n c = some c' ∧ ∀ H' u, Same H H' → RunA H' u c' n → Q u H'
theorem scRun : FnScope ["table", "configuration", "steps", "count", "after"] ["table", "configuration", "steps"] (defScope sRun) := ⟨rfl, rfl, rfl, by decide +kernel, rfl, by decide +kernel, by decide +kernel⟩
theorem ok_run (T : Txt K mg CT CS CH) (D : DefF K mg "_run" sRun ["table", "configuration", "steps"]) (M : OkF P w K mg base 3 "_taken" ["table", "configuration"] spTaken) : OkF P w K mg base 4 "_run" ["table", "configuration", "steps"] spRun := by
  obtain ⟨f, fd, g, b, F⟩ := D
  obtain ⟨fM, fdM, gM, kM, bM, GM⟩ := M
  refine ⟨f, fd, g, F.kp, b, F.ok scRun (fun vs H Q E h => ?_) (fun cdv A outer s0 H vs Q E hr h => ?_)⟩
  · obtain ⟨d, rs, v, c, c', n, rfl, _⟩ := h
    rfl
  · obtain ⟨d, rs, v, c, c', n, rfl, hT, hp, hC, hw, hi, q⟩ := h
    refine ⟨_, pss_cons (ps_for PassesOwn.never rfl (pi_range1 rfl T.range (pa_cons (pv 2) pa_nil)) (pg_name (i := 3) scRun.nd rfl (Or.inl rfl))
        (pss_cons (ps_set (i := 4) scRun.nd rfl (Or.inl rfl) (pe_call GM hr (by rfl) gM kM bM .nil pass0 (pa_cons (pv 0) (pa_cons (pv 1) pa_nil))))
        (pss_cons (ps_if (pt_cmpR op_isN (pv 4) pe_non (nomark _)) pss_never pss_nil)
        (pss_one (ps_set (i := 1) scRun.nd rfl (Or.inl rfl) (pv 4))))))
      (pss_one (ps_ret (pe_tup (pa_cons (pv 1) (pa_cons (pv 2) pa_nil))))), ?_⟩
    refine ⟨_, rfl, (n : Int), rfl, by omega, by omega, for_range (lo := 0) (n := (n : Int).toNat) (fun i σ H' => Same H H' ∧ ∃ ci x v3 v4, iter rs (n - i) ci = some c' ∧ ci.wt ≤ c.wt + 2 * i ∧ LCA H' x ci ∧ σ = [some (.ref d), some x, some (.int (n : Nat)), v3, v4])
      ⟨.refl _, c, v, none, none, hi, Nat.le_refl _, hC, rfl⟩ ?_ ?_⟩
    · rintro i σ H1 hlt ⟨s1, ci, x, v3, v4, h1, h2, h3, rfl⟩
      have en : n - i = (n - (i + 1)) + 1 := by omega
      rw [en] at h1
      have h1 : (stepR rs ci).bind (iter rs (n - (i + 1))) = some c' := h1
      cases e : stepR rs ci with
      | none => rw [e] at h1; cases h1
      | some cj =>
        rw [e] at h1
        have h1 : iter rs (n - (i + 1)) cj = some c' := h1
        refine ⟨_, rfl, _, rfl, d, rs, x, ci, rfl, hT.same s1, hp, h3, by omega, fun H2 u s2 hu => ?_⟩
        rw [e] at hu
        have hu : LCA H2 u cj := hu
        have un : ¬ u = V.non := by
          obtain ⟨a, _, _, _, e, _⟩ := hu
          intro z
          rw [z] at e
          cases e
        refine ⟨_, rfl, rfl, _, rfl, ?_⟩
        rw [decide_eq_false un]
        refine iteF ⟨_, rfl, ?_⟩
        exact ⟨s1.trans s2, cj, u, _, _, h1, by have := wt_step e; omega, hu, rfl⟩
    · rintro σ H1 ⟨s1, ci, x, v3, v4, h1, h2, h3, rfl⟩
      have en : n - (n : Int).toNat = 0 := by omega
      rw [en] at h1
      have h1 : ci = c' := Option.some.inj h1
      subst h1
      refine ⟨_, rfl, _, rfl, (by show 2 ≤ sizeLine; decide), fun p hp => ?_⟩
      have s2 := nw (o := .tup [x, .int (n : Nat)]) hp
      exact q _ _ (s1.trans s2) ⟨p, x, rfl, upd_same, h3.ts (Same.ts s2)⟩
/-! the methods -/
abbrev sStep : Stmt := inClass (top 21) 7
def spStep (CS : Addr) (B : Bool) : Sp := fun vs H Q _ => ∃ (p : Addr) (rs : List Row) (v : V) (c : LC), vs = [.ref p, v] ∧ SevO CS H p rs ∧ LCA H v c ∧ c.wt ≤ 1000000 ∧ ∀ H' u, Same H H' → ResA H' u (stepR (if B = true then rs.map bk else rs) c) → Q u H'
theorem scStep : FnScope ["self", "configuration"] ["self", "configuration"] (defScope sStep) := ⟨rfl, rfl, rfl, by decide +kernel, rfl, by decide +kernel, by decide +kernel⟩
theorem ok_step (T : Txt K mg CT CS CH) (D : DefM K CS "step" "Several.step" sStep ["self", "configuration"]) (M : OkF P w K mg base 3 "_taken" ["table", "configuration"] spTaken) : OkM P w K mg base 4 CS "step" ["self", "configuration"] (spStep CS false) := by
  obtain ⟨f, fd, g, b, F⟩ := D
  obtain ⟨fM, fdM, gM, kM, bM, GM⟩ := M
  refine ⟨f, fd, g, b, F.ok scStep (fun vs H Q E h => ?_) (fun cdv A outer s0 H vs Q E hr h => ?_)⟩
  · obtain ⟨p, rs, v, c, rfl, _⟩ := h
    rfl
  · obtain ⟨p, rs, v, c, rfl, O, hC, hw, q⟩ := h
    refine ⟨_, pss_one (ps_ret (pe_call GM hr (by rfl) gM kM bM .nil pass0 (pa_cons (pe_fld (pv 0) rfl) (pa_cons (pv 1) pa_nil)))), ?_⟩
    obtain ⟨dx, fs, d1, d2, h1, h2, h3, h4, h5, h6, h7⟩ := O.ex
    exact ⟨_, rfl, p, CS, dx, fs, _, rfl, h1, T.cS, T.sBy, h3, _, rfl, d1, rs, v, c, rfl, h6, O.fw, hC, hw, q⟩
abbrev sStopped : Stmt := inClass (top 21) 8
def spStopped (CS : Addr) : Sp := fun vs H Q _ => ∃ (p : Addr) (rs : List Row) (v : V) (c : LC), vs = [.ref p, v] ∧ SevO CS H p rs ∧ LCA H v c ∧ c.wt ≤ 1000000 ∧ stepR rs c = none ∧ ∀ H', Same H H' → Q (.bl true) H'
theorem scStopped : FnScope ["self", "configuration"] ["self", "configuration"] (defScope sStopped) := ⟨rfl, rfl, rfl, by decide +kernel, rfl, by decide +kernel, by decide +kernel⟩
theorem ok_stopped (T : Txt K mg CT CS CH) (D : DefM K CS "stopped" "Several.stopped" sStopped ["self", "configuration"]) (M : OkM P w K mg base 4 CS "step" ["self", "configuration"] (spStep CS false)) : OkM P w K mg base 5 CS "stopped" ["self", "configuration"] (spStopped CS) := by
  obtain ⟨f, fd, g, b, F⟩ := D
  obtain ⟨fM, fdM, mM, bM, GM⟩ := M
  refine ⟨f, fd, g, b, F.ok scStopped (fun vs H Q E h => ?_) (fun cdv A outer s0 H vs Q E hr h => ?_)⟩
  · obtain ⟨p, rs, v, c, rfl, _⟩ := h
    rfl
  · obtain ⟨p, rs, v, c, rfl, O, hC, hw, hs, q⟩ := h
    refine ⟨_, pss_one (ps_ret (pe_cmpR op_isN (pe_meth (pv 0) T.cS mM GM hr bM .nil pass0 (pa_cons (pv 1) pa_nil)) pe_non (nomark _))), ?_⟩
    obtain ⟨dx, fs, d1, d2, h1, h2, h3, h4, h5, h6, h7⟩ := O.ex
    refine ⟨_, rfl, p, dx, fs, rfl, h1, h5 _ (by decide +kernel) (by decide +kernel) (by decide +kernel) (by decide +kernel) (by decide +kernel) (by decide +kernel) (by decide +kernel), _, rfl, p, rs, v, c, rfl, O, hC, hw, fun H1 u s1 hu => ⟨rfl, ?_⟩⟩
    rw [if_neg Bool.false_ne_true, hs] at hu
    have hu : u = .non := hu
    subst hu
    rw [decide_eq_true rfl]
    exact q _ s1
abbrev sSRun : Stmt := inClass (top 21) 9
def spSRun (CS : Addr) (B : Bool) : Sp := fun vs H Q _ => ∃ (p : Addr) (rs : List Row) (v : V) (c c' : LC) (n : Nat), vs = [.ref p, v, .int (n : Nat)] ∧ SevO CS H p rs ∧ LCA H v c ∧ c.wt + 2 * n ≤ 1000000 ∧ iter (if B = true then rs.map bk else rs) n c = some c' ∧ ∀ H' u, Same H H' → RunA H' u c' n → Q u H'
theorem scSRun : FnScope ["self", "configuration", "steps"] ["self", "configuration", "steps"] (defScope sSRun) := ⟨rfl, rfl, rfl, by decide +kernel, rfl, by decide +kernel, by decide +kernel⟩
theorem ok_sRun (T : Txt K mg CT CS CH) (D : DefM K CS "run" "Several.run" sSRun ["self", "configuration", "steps"]) (M : OkF P w K mg base 4 "_run" ["table", "configuration", "steps"] spRun) : OkM P w K mg base 5 CS "run" ["self", "configuration", "steps"] (spSRun CS false) := by
  obtain ⟨f, fd, g, b, F⟩ := D
  obtain ⟨fM, fdM, gM, kM, bM, GM⟩ := M
  refine ⟨f, fd, g, b, F.ok scSRun (fun vs H Q E h => ?_) (fun cdv A outer s0 H vs Q E hr h => ?_)⟩
  · obtain ⟨p, rs, v, c, c', n, rfl, _⟩ := h
    rfl
  · obtain ⟨p, rs, v, c, c', n, rfl, O, hC, hw, hi, q⟩ := h
    refine ⟨_, pss_one (ps_ret (pe_call GM hr (by rfl) gM kM bM .nil pass0 (pa_cons (pe_fld (pv 0) rfl) (pa_cons (pv 1) (pa_cons (pv 2) pa_nil))))), ?_⟩
    obtain ⟨dx, fs, d1, d2, h1, h2, h3, h4, h5, h6, h7⟩ := O.ex
    exact ⟨_, rfl, p, CS, dx, fs, _, rfl, h1, T.cS, T.sBy, h3, _, rfl, _, rfl, d1, rs, v, c, c', n, rfl, h6, O.fw, hC, hw, hi, q⟩
abbrev sCheck : Stmt := inClass (top 21) 12
def spCheck (CS : Addr) : Sp := fun vs H Q _ => ∃ (p : Addr) (rs : List Row), vs = [.ref p] ∧ SevO CS H p rs ∧ Q .non H
theorem scCheck : FnScope ["self"] ["self"] (defScope sCheck) := ⟨rfl, rfl, rfl, by decide +kernel, rfl, by decide +kernel, by decide +kernel⟩
theorem ok_check (T : Txt K mg CT CS CH) (D : DefM K CS "_check_back" "Several._check_back" sCheck ["self"]) : OkM P w K mg base 1 CS "_check_back" ["self"] (spCheck CS) := by
  obtain ⟨f, fd, g, b, F⟩ := D
  refine ⟨f, fd, g, b, F.ok scCheck (fun vs H Q E h => ?_) (fun cdv A outer s0 H vs Q E hr h => ?_)⟩
  · obtain ⟨p, rs, rfl, _⟩ := h
    rfl
  · obtain ⟨p, rs, rfl, O, q⟩ := h
    refine ⟨_, pss_one (ps_if (pt_cmpR op_notN (pe_fld (pv 0) rfl) pe_non (nomark _)) pss_never pss_nil), ?_⟩
    obtain ⟨dx, fs, d1, d2, h1, h2, h3, h4, h5, h6, h7⟩ := O.ex
    refine ⟨_, rfl, p, CS, dx, fs, _, rfl, h1, T.cS, T.sBack, h2, rfl, _, rfl, ?_⟩
    rw [decide_eq_true rfl]
    exact iteF q
abbrev sBack : Stmt := inClass (top 21) 10
theorem scBack : FnScope ["self", "configuration"] ["self", "configuration"] (defScope sBack) := ⟨rfl, rfl, rfl, by decide +kernel, rfl, by decide +kernel, by decide +kernel⟩
theorem ok_back (T : Txt K mg CT CS CH) (D : DefM K CS "back" "Several.back" sBack ["self", "configuration"]) (M : OkF P w K mg base 3 "_taken" ["table", "configuration"] spTaken) (N : OkM P w K mg base 1 CS "_check_back" ["self"] (spCheck CS)) : OkM P w K mg base 4 CS "back" ["self", "configuration"] (spStep CS true) := by
  obtain ⟨f, fd, g, b, F⟩ := D
  obtain ⟨fM, fdM, gM, kM, bM, GM⟩ := M
  obtain ⟨fN, fdN, mN, bN, GN⟩ := N
  refine ⟨f, fd, g, b, F.ok scBack (fun vs H Q E h => ?_) (fun cdv A outer s0 H vs Q E hr h => ?_)⟩
  · obtain ⟨p, rs, v, c, rfl, _⟩ := h
    rfl
  · obtain ⟨p, rs, v, c, rfl, O, hC, hw, q⟩ := h
    have hr1 : Room 1 _ := hr.mono (by decide)
    refine ⟨_, pss_cons (ps_expr (pe_meth0 (pv 0) T.cS mN GN hr1 bN .nil pass0)) (pss_one (ps_ret (pe_call GM hr (by rfl) gM kM bM .nil pass0 (pa_cons (pe_fld (pv 0) rfl) (pa_cons (pv 1) pa_nil))))), ?_⟩
    obtain ⟨dx, fs, d1, d2, h1, h2, h3, h4, h5, h6, h7⟩ := O.ex
    refine ⟨_, rfl, p, dx, fs, rfl, h1, h5 _ (by decide +kernel) (by decide +kernel) (by decide +kernel) (by decide +kernel) (by decide +kernel) (by decide +kernel) (by decide +kernel), p, rs, rfl, O, ?_⟩
    exact ⟨_, rfl, p, CS, dx, fs, _, rfl, h1, T.cS, T.sNx, h4, _, rfl, d2, _, v, c, rfl, h7, O.bw, hC, hw, q⟩
abbrev sRunBack : Stmt := inClass (top 21) 11
theorem scRunBack : FnScope ["self", "configuration", "steps"] ["self", "configuration", "steps"] (defScope sRunBack) := ⟨rfl, rfl, rfl, by decide +kernel, rfl, by decide +kernel, by decide +kernel⟩
theorem ok_runBack (T : Txt K mg CT CS CH) (D : DefM K CS "run_back" "Several.run_back" sRunBack ["self", "configuration", "steps"]) (M : OkF P w K mg base 4 "_run" ["table", "configuration", "steps"] spRun) (N : OkM P w K mg base 1 CS "_check_back" ["self"] (spCheck CS)) :
    OkM P w K mg base 5 CS "run_back" ["self", "configuration", "steps"] (spSRun CS true) := by
  obtain ⟨f, fd, g, b, F⟩ := D
  obtain ⟨fM, fdM, gM, kM, bM, GM⟩ := M
  obtain ⟨fN, fdN, mN, bN, GN⟩ := N
  refine ⟨f, fd, g, b, F.ok scRunBack (fun vs H Q E h => ?_) (fun cdv A outer s0 H vs Q E hr h => ?_)⟩
  · obtain ⟨p, rs, v, c, c', n, rfl, _⟩ := h
    rfl
  · obtain ⟨p, rs, v, c, c', n, rfl, O, hC, hw, hi, q⟩ := h
    have hr1 : Room 1 _ := hr.mono (by decide)
    refine ⟨_, pss_cons (ps_expr (pe_meth0 (pv 0) T.cS mN GN hr1 bN .nil pass0)) (pss_one (ps_ret (pe_call GM hr (by rfl) gM kM bM .nil pass0 (pa_cons (pe_fld (pv 0) rfl) (pa_cons (pv 1) (pa_cons (pv 2) pa_nil)))))), ?_⟩
    obtain ⟨dx, fs, d1, d2, h1, h2, h3, h4, h5, h6, h7⟩ := O.ex
    refine ⟨_, rfl, p, dx, fs, rfl, h1, h5 _ (by decide +kernel) (by decide +kernel) (by decide +kernel) (by decide +kernel) (by decide +kernel) (by decide +kernel) (by decide +kernel), p, rs, rfl, O, ?_⟩
    exact ⟨_, rfl, p, CS, dx, fs, _, rfl, h1, T.cS, T.sNx, h4, _, rfl, _, rfl, d2, _, v, c, c', n, rfl, h7, O.bw, hC, hw, hi, q⟩
end
end Bs

/-! Several.__init__ -/
namespace Bs
open PySem L2
/-- all but the instances stands -/
def Kp (H H' : Hp) : Prop := ∀ a o, H a = some o → (∀ C dx fs, o ≠ .ins C dx fs) → H' a = some o
theorem Same.kp {H H' : Hp} (s : Same H H') : Kp H H' := fun a o h _ => s a o h
theorem Kp.trans {H H1 H2 : Hp} (a : Kp H H1) (b : Kp H1 H2) : Kp H H2 := fun c o h n => b c o (a c o h n) n
theorem Kp.up {H : Hp} {p C dx : Addr} {fs : List (Str × V)} {o : HO} (h : H p = some (.ins C dx fs)) : Kp H (upd H p o) := fun a u e n => by
  rw [upd_ne (fun z => by
    rw [z, h] at e
    exact n C dx fs (Option.some.inj e).symm)]
  exact e
theorem Kp.ts {H H' : Hp} (k : Kp H H') : TS H H' := fun a xs e => k a _ e (by intro C dx fs z; cases z)
theorem TabI.kp {H0 H H' : Hp} {d : Addr} {rs : List Row} {N : Nat} {kvs : List (Key × V)} {ad : Int → Addr} {W : Int → Prop} (s : Kp H H') (t : TabI H0 H d rs N kvs ad W) : TabI H0 H' d rs N kvs ad W :=
  ⟨s _ _ t.at_ (by intro C dx fs z; cases z), t.len, t.no, fun q d0 d1 n h => let ⟨a, x, e, h1, h2, h3⟩ := t.mv q d0 d1 n h; ⟨a, x, e, h1, s.ts _ _ h2, h3.ts s.ts⟩,
    fun q h => let ⟨a, kk, h1, h2, h3, h4, h5, h6⟩ := t.wr q h; ⟨a, kk, h1, s.ts _ _ h2, s _ _ h3 (by intro C dx fs z; cases z), h4, h5, h6.ts s.ts⟩, t.inj⟩
theorem TabAt.kp {H H' : Hp} {d : Addr} {rs : List Row} (s : Kp H H') (t : TabAt H d rs) : TabAt H' d rs := by
  obtain ⟨H0, N, kvs, ad, W, h, hw⟩ := t.ex
  exact ⟨H0, N, kvs, ad, W, h.kp s, hw⟩
theorem But.same {p : Addr} {H H1 H2 : Hp} (a : But p H H1) (b : Same H1 H2) : But p H H2 := fun c o n h => b c o (a c o n h)
theorem But.up {p : Addr} {H H1 : Hp} {o : HO} (a : But p H H1) : But p H (upd H1 p o) := fun c u n h => by
  rw [upd_ne n]
  exact a c u n h
theorem But.refl (p : Addr) (H : Hp) : But p H H := fun _ _ _ h => h
theorem pl {fs : List (Str × V)} {f : Str} {v : V} {n : Nat} (h : fs.length ≤ n) : (putF f v fs).length ≤ n + 1 := Nat.le_trans (length_putF f v fs) (Nat.succ_le_succ h)
theorem pl0 : ([] : List (Str × V)).length ≤ 0 := Nat.le_refl _
section
variable {P : Program} {w : World} {K : PySem.W.Frag} {mg : Str → Option Value} {base : Heap} {CT CS CH : Addr}
abbrev sSInit : Stmt := inClass (top 21) 0
def spSInit (CS : Addr) : Sp := fun vs H Q _ => ∃ (p dx a : Addr) (M S : Nat) (xs : List V) (rs : List Row), vs = [.ref p, .int 2, .int (M : Nat), .int (S : Nat), .ref a] ∧ H p = some (.ins CS dx []) ∧ H a = some (.lst xs) ∧ Al (RowA H) xs rs ∧ 2 ≤ M ∧ M ≤ 400 ∧ 1 ≤ S ∧ S ≤ 5000 ∧ rs.length ≤ 20000 ∧
  (∀ r ∈ rs, RowOk M S r) ∧ rs.Pairwise nc ∧ (rs.map bk).Pairwise nc ∧ ∀ H', But p H H' → SevO CS H' p rs → Q .non H'
theorem scSInit : FnScope ["self", "tapes", "marks", "states", "rows", "row", "pair"] ["self", "tapes", "marks", "states", "rows"] (defScope sSInit) := ⟨rfl, rfl, rfl, by decide +kernel, rfl, by decide +kernel, by decide +kernel⟩
/-- what a comprehension that turns the rows round leaves -/
theorem al_bk {H : Hp} {xs acc : List V} {rs : List Row} (hl : xs.length = rs.length) (la : acc.length = xs.length) (r : ∀ (j : Nat) (v : V), acc[j]? = some v → ∀ r, rs[j]? = some r → RowA H v (bk r)) : Al (RowA H) acc (rs.map bk) := by
  refine ⟨by rw [List.length_map]; omega, fun i x d h1 h2 => ?_⟩
  rw [List.getElem?_map] at h2
  cases e : rs[i]? with
  | none => rw [e] at h2; cases h2
  | some r' =>
    rw [e] at h2
    have h2 : bk r' = d := Option.some.inj h2
    rw [← h2]
    exact r i x h1 r' e
theorem ok_sInit (T : Txt K mg CT CS CH) (D : DefI K CS "Several.__init__" sSInit ["self", "tapes", "marks", "states", "rows"]) (N : OkF P w K mg base 1 "is_number" ["value", "least", "most"] spBtw) (M : OkM P w K mg base 3 CS "_is_row" ["self", "row"] (spSIsRow CS))
    (C : OkF P w K mg base 2 "first_clash" ["rows"] spFirst) (B : OkF P w K mg base 1 "backward" ["row"] spBackward) (U : OkF P w K mg base 1 "_table_of" ["rows"] spTable) : OkI P w K mg base 4 CS ["self", "tapes", "marks", "states", "rows"] (spSInit CS) := by
  obtain ⟨f, fd, g, b, F⟩ := D
  obtain ⟨fN, fdN, gN, kN, bN, GN⟩ := N
  obtain ⟨fM, fdM, mM, bM, GM⟩ := M
  obtain ⟨fC, fdC, gC, kC, bC, GC⟩ := C
  obtain ⟨fB, fdB, gB, kB, bB, GB⟩ := B
  obtain ⟨fU, fdU, gU, kU, bU, GU⟩ := U
  obtain ⟨t1, e1⟩ := T.mt
  obtain ⟨t2, e2⟩ := T.mmS
  obtain ⟨t3, e3⟩ := T.msS
  obtain ⟨t4, e4⟩ := T.mr
  refine ⟨f, fd, g, b, F.ok scSInit (fun vs H Q E h => ?_) (fun cdv A outer s0 H vs Q E hr h => ?_)⟩
  · obtain ⟨p, dx, a, m, s, xs, rs, rfl, _⟩ := h
    rfl
  · obtain ⟨p, dx, a, m, s, xs, rs, rfl, hp, ha, hR, m2, m4, s1, s5, hl, hok, hfw, hbw, q⟩ := h
    have hr1 : Room 1 _ := hr.mono (by decide)
    have hr2 : Room 2 _ := hr.mono (by decide)
    refine ⟨_, pss_cons (ps_if (PW.pt (pw_or (pt_not (pt_val (pe_call GN hr1 (by rfl) gN kN bN .nil pass0 (pa_cons (pv 1) (pa_cons pe_int (pa_cons (pe_glob (v := .int 4) (by rfl) e1 ⟨_, rfl⟩) pa_nil))))))
          (pw_or1 (pt_not (pt_val (pe_call GN hr1 (by rfl) gN kN bN .nil pass0 (pa_cons (pv 2) (pa_cons pe_int (pa_cons (pe_glob (v := .int 400) (by rfl) e2 ⟨_, rfl⟩) pa_nil))))))))) pss_never pss_nil)
      (pss_cons (ps_if (PW.pt (pw_or (pt_not (pt_val (pe_call GN hr1 (by rfl) gN kN bN .nil pass0 (pa_cons (pv 3) (pa_cons pe_int (pa_cons (pe_glob (v := .int 5000) (by rfl) e3 ⟨_, rfl⟩) pa_nil))))))
          (pw_or1 (pt_cmpR op_gt (pe_callB call_len_seq (by rfl) T.len PySem.boot_len (pa_cons (pv 4) pa_nil)) (pe_glob (v := .int 20000) (by rfl) e4 ⟨_, rfl⟩) (nomark _))))) pss_never pss_nil)
      (pss_cons (ps_fld (pv 0) (pv 1) rfl)
      (pss_cons (ps_fld (pv 0) (pv 2) rfl)
      (pss_cons (ps_fld (pv 0) (pv 3) rfl)
      (pss_cons (ps_fld (pv 0) (pe_callTy call_list_of (by rfl) T.list bList (pa_cons (pv 4) pa_nil)) rfl)
      (pss_cons (ps_if (pt_not (pt_val (pe_callB (cr_all rfl) (by rfl) T.all bAll (pa_cons (pe_lc (own := [("row", 5)]) (g := gName 5) (tt := tYes) (te := tMeth CS "_is_row" (spSIsRow CS) [] E0 (tVar 0) (tCons (tVar 5) tNil)) rfl scSInit.nd (pi_list (pe_fld (pv 0) rfl))
          (blkOk_by (N := ["self", "tapes", "marks", "states", "rows", "row", "pair"]) (sc := defScope sSInit) (by decide +kernel)) (fun _ _ _ _ _ => pg_name (i := 5) scSInit.nd rfl (Or.inl rfl)) (fun _ _ _ _ _ => pts_nil)
          (fun _ _ _ _ _ => pe_meth (pv 0) T.cS mM GM hr bM .nil pass0 (pa_cons (pv 5) pa_nil))) pa_nil)))) pss_never pss_nil)
      (pss_cons (ps_set (i := 6) scSInit.nd rfl (Or.inl rfl) (pe_call GC hr2 (by rfl) gC kC bC .nil pass0 (pa_cons (pe_fld (pv 0) rfl) pa_nil)))
      (pss_cons (ps_if (pt_cmpR op_notN (pv 6) pe_non (nomark _)) pss_never pss_nil)
      (pss_cons (ps_fld (pv 0) (pe_call GC hr2 (by rfl) gC kC bC .nil pass0 (pa_cons (pe_lc (own := [("row", 5)]) (g := gName 5) (tt := tYes) (te := tCall spBackward [] E0 (tCons (tVar 5) tNil)) rfl scSInit.nd (pi_list (pe_fld (pv 0) rfl))
          (blkOk_by (N := ["self", "tapes", "marks", "states", "rows", "row", "pair"]) (sc := defScope sSInit) (by decide +kernel)) (fun _ _ _ _ _ => pg_name (i := 5) scSInit.nd rfl (Or.inl rfl)) (fun _ _ _ _ _ => pts_nil)
          (fun _ _ _ _ _ => pe_call GB hr1 (by rfl) gB kB bB .nil pass0 (pa_cons (pv 5) pa_nil))) pa_nil)) rfl)
      (pss_cons (ps_fld (pv 0) (pe_call GU hr1 (by rfl) gU kU bU .nil pass0 (pa_cons (pe_fld (pv 0) rfl) pa_nil)) rfl)
      (pss_cons (ps_fld (pv 0) pe_dnewK rfl)
      (pss_one (ps_if (pt_cmpR op_isN (pe_fld (pv 0) rfl) pe_non (nomark _)) (pss_one (ps_fld (pv 0) (pe_call GU hr1 (by rfl) gU kU bU .nil pass0 (pa_cons (pe_lc (own := [("row", 5)]) (g := gName 5) (tt := tYes) (te := tCall spBackward [] E0 (tCons (tVar 5) tNil)) rfl scSInit.nd (pi_list (pe_fld (pv 0) rfl))
          (blkOk_by (N := ["self", "tapes", "marks", "states", "rows", "row", "pair"]) (sc := defScope sSInit) (by decide +kernel)) (fun _ _ _ _ _ => pg_name (i := 5) scSInit.nd rfl (Or.inl rfl)) (fun _ _ _ _ _ => pts_nil)
          (fun _ _ _ _ _ => pe_call GB hr1 (by rfl) gB kB bB .nil pass0 (pa_cons (pv 5) pa_nil))) pa_nil)) rfl)) pss_nil))))))))))))), ?_⟩
    refine ⟨_, rfl, _, _, _, rfl, true, by decide, iteF ?_⟩
    refine ⟨_, rfl, _, _, _, rfl, true, ?_, iteF ?_⟩
    · rw [decide_eq_true (show (2 : Int) ≤ m by omega), decide_eq_true (show (m : Int) ≤ 400 by omega)]
      rfl
    refine ⟨_, rfl, _, _, _, rfl, true, ?_, iteF ?_⟩
    · rw [decide_eq_true (show (1 : Int) ≤ s by omega), decide_eq_true (show (s : Int) ≤ 5000 by omega)]
      rfl
    have el : xs.length = rs.length := hR.1
    refine ⟨_, rfl, _, _, rfl, .inl (SqL.of ha), _, _, rfl, rfl, _, rfl, ?_⟩
    rw [decide_eq_false (show ¬ (20000 : Int) < ((xs.length : Nat) : Int) by omega)]
    refine iteF ?_
    refine ⟨_, rfl, _, rfl, p, CS, dx, [], rfl, hp, T.cS, T.sTapes, by decide, ?_⟩
    refine ⟨_, rfl, _, rfl, p, CS, dx, _, rfl, upd_same, T.cS, T.sMarks, Nat.lt_of_le_of_lt (pl pl0) (by decide), ?_⟩
    refine ⟨_, rfl, _, rfl, p, CS, dx, _, rfl, upd_same, T.cS, T.sStates, Nat.lt_of_le_of_lt (pl (pl pl0)) (by decide), ?_⟩
    rw [upd_upd, upd_upd]
    generalize eH1 : upd H p (.ins CS dx (putF "states" (.int (s : Nat)) (putF "marks" (.int (m : Nat)) (putF "tapes" (.int 2) [])))) = H1
    have b1 : But p H H1 := by rw [← eH1]; exact (But.refl p H).up
    have p1 : H1 p = some (.ins CS dx (putF "states" (.int (s : Nat)) (putF "marks" (.int (m : Nat)) (putF "tapes" (.int 2) [])))) := by rw [← eH1]; exact upd_same
    have npa : a ≠ p := ne_of ha hp (by intro z; cases z)
    have a1 := b1 _ _ npa ha
    -- self._rows = list(rows)
    refine ⟨_, rfl, a, xs, rfl, .inl (SqL.of a1), fun l hl1 => ?_⟩
    have sl := nw (o := .lst xs) hl1
    refine ⟨_, rfl, p, CS, dx, _, rfl, sl _ _ p1, T.cS, T.sRows, Nat.lt_of_le_of_lt (pl (pl (pl pl0))) (by decide), ?_⟩
    generalize ef4 : putF "_rows" (.ref l) (putF "states" (.int (s : Nat)) (putF "marks" (.int (m : Nat)) (putF "tapes" (.int 2) []))) = f4
    generalize eH2 : upd (upd H1 l (.lst xs)) p (.ins CS dx f4) = H2
    have b2 : But p H H2 := by rw [← eH2]; exact (b1.same sl).up
    have p2 : H2 p = some (.ins CS dx f4) := by rw [← eH2]; exact upd_same
    have npl : l ≠ p := fun z => ne_of_none p1 hl1 z.symm
    have l2 : H2 l = some (.lst xs) := by rw [← eH2, upd_ne npl]; exact upd_same
    have n4 : f4.length ≤ 4 := by rw [← ef4]; exact pl (pl (pl (pl pl0)))
    have k4t : f4.lookup ("tapes" : Str) = some (.int 2) := by rw [← ef4, lookup_putF, if_neg (by decide +kernel), lookup_putF, if_neg (by decide +kernel), lookup_putF, if_neg (by decide +kernel), lookup_putF, if_pos rfl]
    have k4m : f4.lookup ("marks" : Str) = some (.int (m : Nat)) := by rw [← ef4, lookup_putF, if_neg (by decide +kernel), lookup_putF, if_neg (by decide +kernel), lookup_putF, if_pos rfl]
    have k4s : f4.lookup ("states" : Str) = some (.int (s : Nat)) := by rw [← ef4, lookup_putF, if_neg (by decide +kernel), lookup_putF, if_pos rfl]
    have k4r : f4.lookup ("_rows" : Str) = some (.ref l) := by rw [← ef4, lookup_putF, if_pos rfl]
    have k4n : ∀ g : Str, ¬ g = "tapes" → ¬ g = "marks" → ¬ g = "states" → ¬ g = "_rows" → f4.lookup g = none := fun g g1 g2 g3 g4 => by
      rw [← ef4, lookup_putF, if_neg g4, lookup_putF, if_neg g3, lookup_putF, if_neg g2, lookup_putF, if_neg g1]
      rfl
    have ins : ∀ ys, HO.ins CS dx [] ≠ HO.tup ys := by intro ys z; cases z
    have R2 := hR.mono (fun _ _ z => RowA.ts (b2.ts hp ins) z)
    -- not all([self._is_row(row) for row in self._rows])
    refine ⟨_, rfl, p, CS, dx, _, _, rfl, p2, T.cS, T.sRows, k4r, l, rfl, ⟨_, SqL.of l2⟩, fun L hL => ?_⟩
    refine lc_mapR walk_list (fun _ v _ => v = .bl true) hL (by rw [sizeLine_eq]; omega) (fun _ _ _ _ _ h => h) (fun H' s => SqL.of (s _ _ l2)) yAt_same ?_ ?_
    · rintro i x H3 H3' NX lt s3 ⟨rfl, hx⟩ k
      obtain ⟨r, hr1', hr2'⟩ := R2.of hx
      have p3 := s3 _ _ p2
      refine ⟨rfl, _, rfl, p, dx, _, rfl, p3, k4n _ (by decide +kernel) (by decide +kernel) (by decide +kernel) (by decide +kernel), _, rfl, p, x, r, m, s, rfl, hr2'.ts (Same.ts s3), ⟨dx, _, p3, k4t⟩, ⟨dx, _, p3, k4m⟩, ⟨dx, _, p3, k4s⟩, hok r (List.mem_of_getElem? hr1'), fun H4 s4 => k _ _ s4 rfl⟩
    intro H3 acc s3 eD la r
    have ea := acc_eq (f := fun _ => V.bl true) la r
    refine ⟨L, (List.range xs.length).map fun _ => true, rfl, ?_, ?_⟩
    · rw [List.map_map]
      exact SqL.of (eD.trans (by rw [ea]; rfl))
    have ett : ((List.range xs.length).map fun _ => true).all id = true := by simp
    rw [ett]
    refine ⟨true, rfl, iteF ?_⟩
    -- pair = first_clash(self._rows)
    refine ⟨_, rfl, p, CS, dx, _, _, rfl, s3 _ _ p2, T.cS, T.sRows, k4r, l, xs, rs, rfl, s3 _ _ l2, R2.mono (fun _ _ z => RowA.ts (Same.ts s3) z), hl, hfw, fun H4 s4 => ?_⟩
    have s24 := s3.trans s4
    refine ⟨_, rfl, rfl, _, rfl, ?_⟩
    rw [decide_eq_true rfl]
    refine iteF ?_
    -- self._back_clash = first_clash([backward(row) for row in self._rows])
    have l4 := s24 _ _ l2
    have R4 := R2.mono (fun _ _ z => RowA.ts (Same.ts s24) z)
    refine ⟨_, rfl, p, CS, dx, _, _, rfl, s24 _ _ p2, T.cS, T.sRows, k4r, l, rfl, ⟨_, SqL.of l4⟩, fun L2 hL2 => ?_⟩
    refine lc_mapR walk_list (fun j v H => ∀ r, rs[j]? = some r → RowA H v (bk r)) hL2 (by rw [sizeLine_eq]; omega) (fun j v H H' k h r e => (h r e).ts k) (fun H' s => SqL.of (s _ _ l4)) yAt_same ?_ ?_
    · rintro i x H5 H5' NX lt s5 ⟨rfl, hx⟩ k
      obtain ⟨r, hr1', hr2'⟩ := R4.of hx
      refine ⟨rfl, _, rfl, x, r, rfl, hr2'.ts (Same.ts s5), fun H6 u s6 hu => k _ _ s6 fun r' e => ?_⟩
      rw [hr1'] at e
      rw [← Option.some.inj e]
      exact hu
    intro H5 acc5 s5 eD5 la5 r5
    have A5 := al_bk el la5 r5
    refine ⟨L2, acc5, rs.map bk, rfl, eD5, A5, by rw [List.length_map]; exact hl, hbw, fun H6 s6 => ?_⟩
    have s26 := (s24.trans s5).trans s6
    have p6 := s26 _ _ p2
    refine ⟨_, rfl, p, CS, dx, _, rfl, p6, T.cS, T.sBack, Nat.lt_of_le_of_lt n4 (by decide), ?_⟩
    generalize eH7 : upd H6 p (.ins CS dx (putF "_back_clash" .non f4)) = H7
    have b7 : But p H H7 := by rw [← eH7]; exact (b2.same s26).up
    have p7 : H7 p = some (.ins CS dx (putF "_back_clash" .non f4)) := by rw [← eH7]; exact upd_same
    have l7 : H7 l = some (.lst xs) := by rw [← eH7, upd_ne npl]; exact s26 _ _ l2
    have R7 := hR.mono (fun _ _ z => RowA.ts (b7.ts hp ins) z)
    -- self._by_state = _table_of(self._rows)
    refine ⟨_, rfl, p, CS, dx, _, _, rfl, p7, T.cS, T.sRows, by rw [lookup_putF, if_neg (by decide +kernel)]; exact k4r, l, xs, rs, rfl, l7, R7, hl, hfw, fun H8 d1 s8 t8 => ?_⟩
    have p8 := s8 _ _ p7
    refine ⟨_, rfl, p, CS, dx, _, rfl, p8, T.cS, T.sBy, Nat.lt_of_le_of_lt (pl n4) (by decide), ?_⟩
    generalize eH9 : upd H8 p (.ins CS dx (putF "_by_state" (.ref d1) (putF "_back_clash" .non f4))) = H9
    have b9 : But p H H9 := by rw [← eH9]; exact (b7.same s8).up
    have p9 : H9 p = some (.ins CS dx (putF "_by_state" (.ref d1) (putF "_back_clash" .non f4))) := by rw [← eH9]; exact upd_same
    have k89 : Kp H8 H9 := by rw [← eH9]; exact .up p8
    have l9 : H9 l = some (.lst xs) := k89 _ _ (s8 _ _ l7) (by intro _ _ _ z; cases z)
    -- self._by_next = {}
    intro e he
    have se := nw (o := .dK []) he
    have p10 := se _ _ p9
    refine ⟨_, rfl, p, CS, dx, _, rfl, p10, T.cS, T.sNx, Nat.lt_of_le_of_lt (pl (pl n4)) (by decide), ?_⟩
    generalize eHA : upd (upd H9 e (.dK [])) p (.ins CS dx (putF "_by_next" (.ref e) (putF "_by_state" (.ref d1) (putF "_back_clash" .non f4)))) = HA
    have bA : But p H HA := by rw [← eHA]; exact (b9.same se).up
    have pA : HA p = some (.ins CS dx (putF "_by_next" (.ref e) (putF "_by_state" (.ref d1) (putF "_back_clash" .non f4)))) := by rw [← eHA]; exact upd_same
    have k9A : Kp H9 HA := by rw [← eHA]; exact (Same.kp se).trans (.up p10)
    have lA : HA l = some (.lst xs) := k9A _ _ l9 (by intro _ _ _ z; cases z)
    have RA := hR.mono (fun _ _ z => RowA.ts (bA.ts hp ins) z)
    -- if self._back_clash is None
    refine ⟨_, rfl, p, CS, dx, _, _, rfl, pA, T.cS, T.sBack, by rw [lookup_putF, if_neg (by decide +kernel), lookup_putF, if_neg (by decide +kernel), lookup_putF, if_pos rfl], rfl, _, rfl, ?_⟩
    rw [decide_eq_true rfl]
    refine iteT ?_
    refine ⟨_, rfl, p, CS, dx, _, _, rfl, pA, T.cS, T.sRows, by rw [lookup_putF, if_neg (by decide +kernel), lookup_putF, if_neg (by decide +kernel), lookup_putF, if_neg (by decide +kernel)]; exact k4r, l, rfl, ⟨_, SqL.of lA⟩, fun L3 hL3 => ?_⟩
    refine lc_mapR walk_list (fun j v H => ∀ r, rs[j]? = some r → RowA H v (bk r)) hL3 (by rw [sizeLine_eq]; omega) (fun j v H H' k h r e => (h r e).ts k) (fun H' s => SqL.of (s _ _ lA)) yAt_same ?_ ?_
    · rintro i x H5 H5' NX lt s5 ⟨rfl, hx⟩ k
      obtain ⟨r, hr1', hr2'⟩ := RA.of hx
      refine ⟨rfl, _, rfl, x, r, rfl, hr2'.ts (Same.ts s5), fun H6 u s6 hu => k _ _ s6 fun r' e => ?_⟩
      rw [hr1'] at e
      rw [← Option.some.inj e]
      exact hu
    intro HB accB sB eDB laB rB
    have AB := al_bk el laB rB
    refine ⟨L3, accB, rs.map bk, rfl, eDB, AB, by rw [List.length_map]; exact hl, hbw, fun HC d2 sC tC => ?_⟩
    have sAC := sB.trans sC
    have pC := sAC _ _ pA
    refine ⟨_, rfl, p, CS, dx, _, rfl, pC, T.cS, T.sNx, Nat.lt_of_le_of_lt (pl (pl (pl n4))) (by decide), ?_⟩
    have kC : Kp HC (upd HC p (.ins CS dx (putF "_by_next" (.ref d2) (putF "_by_next" (.ref e) (putF "_by_state" (.ref d1) (putF "_back_clash" .non f4)))))) := .up pC
    refine q _ (bA.same sAC).up ⟨⟨dx, _, d1, d2, upd_same, ?_, ?_, ?_, fun g g1 g2 g3 g4 g5 g6 g7 => ?_, ?_, tC.kp kC⟩, hfw, hbw⟩
    · rw [lookup_putF, if_neg (by decide +kernel), lookup_putF, if_neg (by decide +kernel), lookup_putF, if_neg (by decide +kernel), lookup_putF, if_pos rfl]
    · rw [lookup_putF, if_neg (by decide +kernel), lookup_putF, if_neg (by decide +kernel), lookup_putF, if_pos rfl]
    · rw [lookup_putF, if_pos rfl]
    · rw [lookup_putF, if_neg g7, lookup_putF, if_neg g7, lookup_putF, if_neg g6, lookup_putF, if_neg g5]
      exact k4n g g1 g2 g3 g4
    · exact t8.kp (((k89.trans k9A).trans (Same.kp sAC)).trans kC)
end
end Bs

/-! pairs_of -/
namespace Bs
open PySem L2
theorem prsA_len (m q : Nat) (R : List URow) (a : Nat) : (prsA m q R a).length ≤ 1 := by
  unfold prsA
  split
  · exact Nat.le_refl _
  · exact Nat.zero_le _
theorem flat_len {α β : Type} (f : α → List β) (k : Nat) (h : ∀ x, (f x).length ≤ k) : ∀ l : List α, (l.flatMap f).length ≤ l.length * k
  | [] => Nat.zero_le _
  | x :: l => by
    rw [List.flatMap_cons, List.length_append, List.length_cons, Nat.add_mul, Nat.one_mul]
    have := flat_len f k h l
    have := h x
    omega
theorem inner_len (m q : Nat) (R : List URow) (j : Nat) : ((List.range j).flatMap (prsA m q R)).length ≤ j := by
  have := flat_len (prsA m q R) 1 (prsA_len m q R) (List.range j)
  rw [List.length_range, Nat.mul_one] at this
  exact this
theorem outer_len (m : Nat) (R : List URow) (i : Nat) : (((List.range i).flatMap fun q => (List.range m).flatMap (prsA m q R))).length ≤ i * m := by
  have := flat_len (fun q => (List.range m).flatMap (prsA m q R)) m (fun q => inner_len m q R m) (List.range i)
  rw [List.length_range] at this
  exact this
theorem range_flat {β : Type} (f : Nat → List β) (i : Nat) : (List.range (i + 1)).flatMap f = (List.range i).flatMap f ++ f i := by
  rw [List.range_succ, List.flatMap_append, List.flatMap_cons, List.flatMap_nil, List.append_nil]
/-- a pair with its row, as pairs_of tells it -/
def PrA (m : Nat) (H : Hp) (v : V) (x : Pr) : Prop := ∃ a r, v = .ref a ∧ H a = some (.tup [.int (m * x.q + x.a : Nat), .int (x.q : Nat), .int (x.a : Nat), r]) ∧ URA H r (some (x.b, x.d, x.t))
theorem PrA.ts {m : Nat} {H H' : Hp} (k : TS H H') {v : V} {x : Pr} (h : PrA m H v x) : PrA m H' v x := let ⟨a, r, e, h1, h2⟩ := h; ⟨a, r, e, k _ _ h1, h2.ts k⟩
section
variable {P : Program} {w : World} {K : PySem.W.Frag} {mg : Str → Option Value} {base : Heap} {CT CS CH : Addr}
abbrev sPairs : Stmt := top 27
def spPairs (CT : Addr) : Sp := fun vs H Q _ => ∃ (p : Addr) (m s : Nat) (xs : List V) (R : List URow), vs = [.ref p] ∧ TapeO CT H p m s xs ∧ Al (URA H) xs R ∧ UOk m s R ∧ m ≤ 8 ∧ s ≤ 40 ∧ ∀ H' l ys, Same H H' → H l = none → H' l = some (.lst ys) → Al (PrA m H') ys (prs m s R) → Q (.ref l) H'
theorem scPairs : FnScope ["machine", "found", "state", "mark", "row"] ["machine"] (defScope sPairs) := ⟨rfl, rfl, rfl, by decide +kernel, rfl, by decide +kernel, by decide +kernel⟩
theorem ok_pairs (T : Txt K mg CT CS CH) (D : DefF K mg "pairs_of" sPairs ["machine"]) (M : OkM P w K mg base 2 CT "row" ["self", "state", "mark"] (spTRow CT)) : OkF P w K mg base 3 "pairs_of" ["machine"] (spPairs CT) := by
  obtain ⟨f, fd, g, b, F⟩ := D
  obtain ⟨fM, fdM, mM, bM, GM⟩ := M
  refine ⟨f, fd, g, F.kp, b, F.ok scPairs (fun vs H Q E h => ?_) (fun cdv A outer s0 H vs Q E hr h => ?_)⟩
  · obtain ⟨p, m, s, xs, R, rfl, _⟩ := h
    rfl
  · obtain ⟨p, m, s, xs, R, rfl, O, hR, u, m8, s40, q⟩ := h
    refine ⟨_, pss_cons (ps_set (i := 1) scPairs.nd rfl (Or.inl rfl) (pe_lst pa_nil))
      (pss_cons (ps_for PassesOwn.never rfl (pi_range1 rfl T.range (pa_cons (pe_fld (pv 0) rfl) pa_nil)) (pg_name (i := 2) scPairs.nd rfl (Or.inl rfl))
        (pss_one (ps_for PassesOwn.never rfl (pi_range1 rfl T.range (pa_cons (pe_fld (pv 0) rfl) pa_nil)) (pg_name (i := 3) scPairs.nd rfl (Or.inl rfl))
          (pss_cons (ps_set (i := 4) scPairs.nd rfl (Or.inl rfl) (pe_meth (pv 0) T.cT mM GM hr bM .nil pass0 (pa_cons (pv 2) (pa_cons (pv 3) pa_nil))))
          (pss_one (ps_if (pt_cmpR op_notN (pv 4) pe_non (nomark _))
            (pss_one (ps_expr (pe_bm PySem.F.plainAttrs_list PySem.F.slot_list_append PySem.F.type_list_append mt_append (pv 1) (pa_cons (pe_tup (pa_cons (pe_op op_add (pe_op op_mul (pe_fld (pv 0) rfl) (pv 2)) (pv 3)) (pa_cons (pv 2) (pa_cons (pv 3) (pa_cons (pv 4) pa_nil))))) pa_nil))))
            pss_nil))))))
      (pss_one (ps_ret (pv 1)))), ?_⟩
    refine ⟨Nat.zero_le _, fun l hl => ?_⟩
    have s1 : Same H (upd H l (.lst [])) := nw hl
    obtain ⟨dx, fs, rl, h1, h2, h3, h4, h5, h6⟩ := (O.same s1).ex
    refine ⟨_, rfl, p, CT, dx, fs, _, rfl, h1, T.cT, T.tStates, h3, (s : Int), rfl, by omega, by omega, for_range (lo := 0) (n := (s : Int).toNat)
      (fun i σ H' => Same H H' ∧ (∃ ys, H' l = some (.lst ys) ∧ Al (PrA m H') ys ((List.range i).flatMap fun q => (List.range m).flatMap (prsA m q R))) ∧ ∃ v2 v3 v4, σ = [some (.ref p), some (.ref l), v2, v3, v4])
      ⟨s1, ⟨[], upd_same, .nil⟩, none, none, none, rfl⟩ ?_ ?_⟩
    · rintro i σ H1 hi ⟨s2, ⟨ys, hy1, hy2⟩, v2, v3, v4, rfl⟩
      rw [Int.zero_add]
      have hi : i < s := by omega
      obtain ⟨dx, fs, rl, h1, h2, h3, h4, h5, h6⟩ := (O.same s2).ex
      refine ⟨_, rfl, p, CT, dx, fs, _, rfl, h1, T.cT, T.tMarks, h2, (m : Int), rfl, by omega, by omega, for_range (lo := 0) (n := (m : Int).toNat)
        (fun j σ H' => Same H H' ∧ (∃ ys, H' l = some (.lst ys) ∧ Al (PrA m H') ys (((List.range i).flatMap fun q => (List.range m).flatMap (prsA m q R)) ++ (List.range j).flatMap (prsA m i R))) ∧ ∃ v3 v4, σ = [some (.ref p), some (.ref l), some (.int (i : Nat)), v3, v4])
        ⟨s2, ⟨ys, hy1, by rw [List.range_zero, List.flatMap_nil, List.append_nil]; exact hy2⟩, _, _, rfl⟩ ?_ ?_⟩
      · rintro j σ H2 hj ⟨s3, ⟨zs, hz1, hz2⟩, v3, v4, rfl⟩
        rw [Int.zero_add]
        have hj : j < m := by omega
        have O3 := O.same s3
        obtain ⟨dx, fs, rl, h1, h2, h3, h4, h5, h6⟩ := O3.ex
        have hlt := num_top hi hj
        have R3 := hR.mono (fun _ _ z => URA.ts (Same.ts s3) z)
        have hlx : m * i + j < R.length := by rw [u.len]; exact hlt
        obtain ⟨v, hv1, hv2⟩ := R3.get (List.getElem?_eq_getElem hlx)
        have eA : ∀ o, R[m * i + j] = o → R[m * i + j]? = some o := fun o e => by rw [List.getElem?_eq_getElem hlx, e]
        refine ⟨_, rfl, p, dx, fs, rfl, h1, h5 _ (by decide +kernel) (by decide +kernel) (by decide +kernel), _, rfl, _, rfl, p, m, s, i, j, xs, v, rfl, O3, s40, hi, hj, hv1, ?_⟩
        refine ⟨_, rfl, rfl, _, rfl, ?_⟩
        cases eR : R[m * i + j] with
        | none =>
          rw [eR] at hv2
          have hv2 : v = .non := hv2
          subst hv2
          rw [decide_eq_true rfl]
          have ep : prsA m i R j = [] := by
            unfold prsA
            rw [eA _ eR]
          refine iteF ⟨s3, ⟨zs, hz1, ?_⟩, _, _, rfl⟩
          rw [range_flat, ep, List.append_nil]
          exact hz2
        | some x =>
          obtain ⟨bb, d, t⟩ := x
          rw [eR] at hv2
          have ep : prsA m i R j = [⟨i, j, bb, d, t⟩] := by
            unfold prsA
            rw [eA _ eR]
          have vn : ¬ v = V.non := by
            obtain ⟨a, e, _⟩ := hv2
            intro z
            rw [z] at e
            cases e
          rw [decide_eq_false vn]
          refine iteT ?_
          refine ⟨_, rfl, .inl ⟨rfl, _, SqL.of hz1⟩, ?_⟩
          refine ⟨_, rfl, p, CT, dx, fs, _, rfl, h1, T.cT, T.tMarks, h2, _, rfl, _, _, rfl, rfl, .inl ⟨by omega, by omega⟩, _, rfl, _, _, rfl, rfl, _, rfl, _, rfl, _, rfl, (by show 4 ≤ sizeLine; decide), fun c hc => ?_⟩
          have s4 := nw (o := .tup [.int ((m : Int) * (i : Nat) + (j : Nat)), .int (i : Nat), .int (j : Nat), v]) hc
          have hz4 := s4 _ _ hz1
          refine ⟨l, zs, _, rfl, rfl, hz4, ?_, ?_⟩
          · have e1 := hz2.1
            rw [List.length_append] at e1
            have e2 := outer_len m R i
            have e3 := inner_len m i R j
            have e4 : i * m ≤ 40 * 8 := Nat.mul_le_mul (by omega) m8
            rw [sizeLine_eq]
            omega
          · have tL := TS.lst (o := .lst (zs ++ [.ref c])) hz4
            have ts := (Same.ts s4).trans tL
            refine ⟨ow (s3.trans s4) hl, ⟨_, upd_same, ?_⟩, _, _, rfl⟩
            rw [range_flat, ep, ← List.append_assoc]
            exact (hz2.mono (fun _ _ z => PrA.ts ts z)).snoc ⟨c, v, rfl, tL _ _ upd_same, hv2.ts ts⟩
      · rintro σ H2 ⟨s3, ⟨zs, hz1, hz2⟩, v3, v4, rfl⟩
        have em : (m : Int).toNat = m := by omega
        rw [em] at hz2
        refine ⟨s3, ⟨zs, hz1, ?_⟩, _, _, _, rfl⟩
        rw [range_flat]
        exact hz2
    · rintro σ H1 ⟨s2, ⟨ys, hy1, hy2⟩, v2, v3, v4, rfl⟩
      have es : (s : Int).toNat = s := by omega
      rw [es] at hy2
      exact ⟨_, rfl, q _ _ ys s2 hl hy1 hy2⟩
end
end Bs

/-! History._rows -/
namespace Bs
open PySem L2
theorem prs_len (m s : Nat) (R : List URow) : (prs m s R).length ≤ s * m := outer_len m R s
theorem prRows_len (m s : Nat) (x : Pr) : (prRows m s x).length = m + 2 := by
  unfold prRows
  rw [List.length_cons, List.length_cons, List.length_map, List.length_range]
theorem take_len {m s : Nat} {R : List URow} (m8 : m ≤ 8) (s40 : s ≤ 40) (i : Nat) : (((prs m s R).take i).flatMap (prRows m s)).length ≤ 3200 := by
  have h1 := flat_len (prRows m s) (m + 2) (fun x => Nat.le_of_eq (prRows_len m s x)) ((prs m s R).take i)
  have h2 := prs_len m s R
  have h3 : ((prs m s R).take i).length ≤ 320 := by
    rw [List.length_take]
    have : s * m ≤ 40 * 8 := Nat.mul_le_mul s40 m8
    omega
  have h4 : ((prs m s R).take i).length * (m + 2) ≤ 320 * 10 := Nat.mul_le_mul h3 (by omega)
  omega
theorem low_len {m s : Nat} {R : List URow} (m8 : m ≤ 8) (s40 : s ≤ 40) : (lowRows m s R).length ≤ 20000 := by
  have h := take_len (R := R) m8 s40 (prs m s R).length
  rw [List.take_length] at h
  unfold lowRows
  rw [List.length_append, List.length_map, List.length_range]
  omega
theorem al_range {F : V → Row → Prop} {acc : List V} {n : Nat} {f : Nat → Row} (la : acc.length = n) (r : ∀ (j : Nat) (v : V), acc[j]? = some v → F v (f j)) : Al F acc ((List.range n).map f) := by
  refine ⟨by rw [List.length_map, List.length_range]; exact la, fun i x d h1 h2 => ?_⟩
  rw [List.getElem?_map] at h2
  by_cases hi : i < n
  · rw [List.getElem?_range hi] at h2
    have h2 : f i = d := Option.some.inj h2
    rw [← h2]
    exact r i x h1
  · rw [List.getElem?_eq_none (by rw [List.length_range]; omega)] at h2
    cases h2
theorem walk_range0 {n : Nat} : Walk (Itr 0 n) n (fun _ => True) (YFn fun i => .int (i : Nat)) :=
  ⟨fun _ _ hi _ => hi, fun _ _ => Nat.le_refl _, fun _ _ _ _ _ _ y => ⟨y.1, by rw [y.2, Int.zero_add]⟩⟩
theorem But.lst {l : Addr} {H H' : Hp} {ys : List V} (k : But l H H') (h : H l = some (.lst ys)) : TS H H' := k.ts h (by intro xs z; cases z)
section
variable {P : Program} {w : World} {K : PySem.W.Frag} {mg : Str → Option Value} {base : Heap} {CT CS CH : Addr}
abbrev sRows : Stmt := inClass (top 28) 1
def spRows (CT CH : Addr) : Sp := fun vs H Q _ => ∃ (h p : Addr) (m s : Nat) (xs : List V) (R : List URow), vs = [.ref h] ∧ Fld CH H h "upper" (.ref p) ∧ Fld CH H h "_pairs" (.int (m * s : Nat)) ∧ TapeO CT H p m s xs ∧ Al (URA H) xs R ∧ UOk m s R ∧ m ≤ 8 ∧ s ≤ 40 ∧
  ∀ H' l ys, Same H H' → H' l = some (.lst ys) → Al (RowA H') ys (lowRows m s R) → Q (.ref l) H'
theorem scRows : FnScope ["self", "states", "marks", "rows", "p", "state", "mark", "written", "move", "following", "go", "note", "c"] ["self"] (defScope sRows) := ⟨rfl, rfl, rfl, by decide +kernel, rfl, by decide +kernel, by decide +kernel⟩
theorem ok_rows (T : Txt K mg CT CS CH) (D : DefM K CH "_rows" "History._rows" sRows ["self"]) (M : OkF P w K mg base 3 "pairs_of" ["machine"] (spPairs CT)) : OkM P w K mg base 4 CH "_rows" ["self"] (spRows CT CH) := by
  obtain ⟨f, fd, g, b, F⟩ := D
  obtain ⟨fM, fdM, gM, kM, bM, GM⟩ := M
  refine ⟨f, fd, g, b, F.ok scRows (fun vs H Q E h => ?_) (fun cdv A outer s0 H vs Q E hr h => ?_)⟩
  · obtain ⟨h, p, m, s, xs, R, rfl, _⟩ := h
    rfl
  · obtain ⟨h, p, m, s, xs, R, rfl, ⟨du, fu, hu1, hu2⟩, ⟨dp, fp, hp1, hp2⟩, O, hR, u, m8, s40, q⟩ := h
    refine ⟨_, pss_cons (ps_asg (pe_tup (pa_cons (pe_fld (pe_fld (pv 0) rfl) rfl) (pa_cons (pe_fld (pe_fld (pv 0) rfl) rfl) pa_nil))) (pg_tup (by rfl) (pgs_cons (pg_name (i := 1) scRows.nd rfl (Or.inr rfl)) (pgs_cons (pg_name (i := 2) scRows.nd rfl (Or.inl rfl)) pgs_nil))))
      (pss_cons (ps_set (i := 3) scRows.nd rfl (Or.inl rfl) (pe_lst pa_nil))
      (pss_cons (ps_for PassesOwn.never rfl (pi_list (pe_call GM hr (by rfl) gM kM bM .nil pass0 (pa_cons (pe_fld (pv 0) rfl) pa_nil)))
          (pg_tup rfl (pgs_cons (pg_name (i := 4) scRows.nd rfl (Or.inr rfl)) (pgs_cons (pg_name (i := 5) scRows.nd rfl (Or.inl rfl)) (pgs_cons (pg_name (i := 6) scRows.nd rfl (Or.inl rfl)) (pgs_cons (pg_tup rfl (pgs_cons (pg_name (i := 7) scRows.nd rfl (Or.inl rfl)) (pgs_cons (pg_name (i := 8) scRows.nd rfl (Or.inl rfl)) (pgs_cons (pg_name (i := 9) scRows.nd rfl (Or.inr rfl)) pgs_nil)))) pgs_nil)))))
        (pss_cons (ps_asg (pe_tup (pa_cons (pe_op op_add (pe_op op_mul pe_int (pv 1)) (pv 4)) (pa_cons (pe_op op_add (pe_op op_add (pe_op op_mul pe_int (pv 1)) (pe_fld (pv 0) rfl)) (pv 4)) pa_nil))) (pg_tup (by rfl) (pgs_cons (pg_name (i := 10) scRows.nd rfl (Or.inl rfl)) (pgs_cons (pg_name (i := 11) scRows.nd rfl (Or.inr rfl)) pgs_nil))))
        (pss_cons (ps_expr (pe_bm PySem.F.plainAttrs_list PySem.F.slot_list_append PySem.F.type_list_append mt_append (pv 3) (pa_cons (pe_tup (pa_cons pe_str (pa_cons (pv 5) (pa_cons (pe_tup (pa_cons (pv 6) (pa_cons pe_int pa_nil))) (pa_cons (pe_tup (pa_cons (pv 7) (pa_cons pe_int pa_nil))) (pa_cons (pv 10) pa_nil)))))) pa_nil)))
        (pss_cons (ps_expr (pe_bm PySem.F.plainAttrs_list PySem.F.slot_list_append PySem.F.type_list_append mt_append (pv 3) (pa_cons (pe_tup (pa_cons pe_str (pa_cons (pv 10) (pa_cons (pe_tup (pa_cons (pv 8) (pa_cons pe_int pa_nil))) (pa_cons (pv 11) pa_nil))))) pa_nil)))
        (pss_one (ps_expr (pe_bm PySem.F.plainAttrs_list PySem.F.slot_list_extend PySem.F.type_list_extend mt_extend (pv 3) (pa_cons
          (pe_lc (own := [("c", 12)]) (g := gName 12) (tt := tYes) rfl scRows.nd (pi_range1 (by rfl) T.range (pa_cons (pv 2) pa_nil)) (blkOk_by (N := ["self", "states", "marks", "rows", "p", "state", "mark", "written", "move", "following", "go", "note", "c"]) (sc := defScope sRows) (by decide +kernel))
            (fun _ _ _ _ _ => pg_name (i := 12) scRows.nd rfl (Or.inl rfl)) (fun _ _ _ _ _ => pts_nil)
            (fun _ _ _ _ _ => pe_tup (pa_cons pe_str (pa_cons (pv 11) (pa_cons (pe_tup (pa_cons (pv 12) (pa_cons pe_int pa_nil))) (pa_cons (pe_tup (pa_cons (pv 12) (pa_cons (pe_op op_add (pv 4) pe_int) pa_nil))) (pa_cons (pe_op op_add (pv 1) (pv 9)) pa_nil))))))) pa_nil))))))))
      (pss_cons (ps_expr (pe_bm PySem.F.plainAttrs_list PySem.F.slot_list_extend PySem.F.type_list_extend mt_extend (pv 3) (pa_cons
          (pe_lc (own := [("state", 5)]) (g := gName 5) (tt := tYes) rfl scRows.nd (pi_range1 (by rfl) T.range (pa_cons (pv 1) pa_nil)) (blkOk_by (N := ["self", "states", "marks", "rows", "p", "state", "mark", "written", "move", "following", "go", "note", "c"]) (sc := defScope sRows) (by decide +kernel))
            (fun _ _ _ _ _ => pg_name (i := 5) scRows.nd rfl (Or.inl rfl)) (fun _ _ _ _ _ => pts_nil)
            (fun _ _ _ _ _ => pe_tup (pa_cons pe_str (pa_cons (pe_op op_add (pv 1) (pv 5)) (pa_cons (pe_tup (pa_cons pe_int (pa_cons pe_int pa_nil))) (pa_cons (pv 5) pa_nil)))))) pa_nil)))
      (pss_one (ps_ret (pv 3)))))), ?_⟩
    obtain ⟨dx, fs, rl, h1, h2, h3, h4, h5, h6⟩ := O.ex
    -- states, marks = ..
    refine ⟨_, rfl, h, CH, du, fu, _, rfl, hu1, T.cH, T.hUpper, hu2, p, CT, dx, fs, _, rfl, h1, T.cT, T.tStates, h3, _, rfl, h, CH, du, fu, _, rfl, hu1, T.cH, T.hUpper, hu2, p, CT, dx, fs, _, rfl, h1, T.cT, T.tMarks, h2, (by show 2 ≤ sizeLine; decide), fun t0 ht0 => ?_⟩
    have st0 := nw (o := .tup [.int (s : Nat), .int (m : Nat)]) ht0
    refine ⟨t0, _, rfl, SqT.of upd_same, rfl, _, _, rfl, _, _, rfl, rfl, ?_⟩
    -- rows = []
    refine ⟨Nat.zero_le _, fun l hl => ?_⟩
    have sl := nw (o := .lst []) hl
    have s1 := st0.trans sl
    have l0 : H l = none := st0.free hl
    -- pairs_of(self.upper)
    refine ⟨_, rfl, h, CH, du, fu, _, rfl, s1 _ _ hu1, T.cH, T.hUpper, hu2, p, m, s, xs, R, rfl, O.same s1, hR.mono (fun _ _ z => URA.ts (Same.ts s1) z), u, m8, s40, fun H1 pl ps s2 hpl0 hpl hps => ?_⟩
    have s12 := s1.trans s2
    have hl1 : H1 l = some (.lst []) := s2 _ _ upd_same
    have hpb : ∀ H', But l H1 H' → H' h = some (.ins CH dp fp) := fun H' k => k _ _ (ne_of (s12 _ _ hp1) hl1 (by intro z; cases z)) (s12 _ _ hp1)
    have npl : pl ≠ l := fun z => ne_of_none (show (upd (upd H t0 (.tup [.int (s : Nat), .int (m : Nat)])) l (.lst [])) l = some (.lst []) from upd_same) hpl0 z.symm
    refine ⟨pl, rfl, ⟨_, SqL.of hpl⟩, for_list (K := K) (a := pl) (xs := ps)
      (fun i σ H' => But l H1 H' ∧ (∃ ys, H' l = some (.lst ys) ∧ Al (RowA H') ys (((prs m s R).take i).flatMap (prRows m s))) ∧ ∃ v4 v5 v6 v7 v8 v9 v10 v11, σ = [some (.ref h), some (.int (s : Nat)), some (.int (m : Nat)), some (.ref l), v4, v5, v6, v7, v8, v9, v10, v11, none])
      ⟨But.refl l H1, ⟨[], hl1, by rw [List.take_zero]; exact .nil⟩, none, none, none, none, none, none, none, none, rfl⟩ (fun i σ H' _ k => SqL.of (k.1 _ _ npl hpl)) ?_ ?_⟩
    · rintro i x σ H2 hx ⟨k2, ⟨ys, hy1, hy2⟩, v4, v5, v6, v7, v8, v9, v10, v11, rfl⟩
      obtain ⟨y, hpr, hA⟩ := hps.of hx
      obtain ⟨a, r, rfl, ha, a2, rfl, ha2⟩ := hA.ts (k2.lst hl1)
      have tk : (prs m s R).take (i + 1) = (prs m s R).take i ++ [y] := by
        rw [List.take_add_one, hpr]
        rfl
      have hlen := take_len (R := R) m8 s40 i
      have hly := hy2.1
      -- p, state, mark, (written, move, following)
      refine ⟨a, _, rfl, SqT.of ha, rfl, _, _, rfl, _, _, rfl, _, _, rfl, _, _, rfl, a2, _, rfl, SqT.of ha2, rfl, _, _, rfl, _, _, rfl, _, _, rfl, rfl, rfl, ?_⟩
      -- go, note
      refine ⟨_, rfl, _, _, rfl, rfl, .inl ⟨by decide, by decide⟩, _, rfl, _, _, rfl, rfl, _, rfl, _, _, rfl, rfl, .inl ⟨by decide, by decide⟩, _, rfl, h, CH, dp, fp, _, rfl, hpb _ k2, T.cH, T.hPairs, hp2, _, _, rfl, rfl, _, rfl, _, _, rfl, rfl, (by show 2 ≤ sizeLine; decide), fun t1 ht1 => ?_⟩
      have q1 := nw (o := .tup [.int (2 * (s : Int) + (m * y.q + y.a : Nat)), .int (2 * (s : Int) + (m * s : Nat) + (m * y.q + y.a : Nat))]) ht1
      refine ⟨t1, _, rfl, SqT.of upd_same, rfl, _, _, rfl, _, _, rfl, rfl, ?_⟩
      have hy3 := q1 _ _ hy1
      have kk3 := k2.same q1
      -- rows.append(("write", ..))
      refine ⟨_, rfl, .inl ⟨rfl, _, SqL.of hy3⟩, _, rfl, _, rfl, (by show 2 ≤ sizeLine; decide), fun c1 hc1 => ?_⟩
      have q2 := nw (o := .tup [.int (y.a : Nat), .int 0]) hc1
      refine ⟨_, rfl, (by show 2 ≤ sizeLine; decide), fun c2 hc2 => ?_⟩
      have q3 := nw (o := .tup [.int y.b, .int 0]) hc2
      refine ⟨_, rfl, (by show 5 ≤ sizeLine; decide), fun c3 hc3 => ?_⟩
      have q4 := nw (o := .tup [.str "write", .int (y.q : Nat), .ref c1, .ref c2, .int (2 * (s : Int) + (m * y.q + y.a : Nat))]) hc3
      have q24 := (q2.trans q3).trans q4
      have hy4 := q24 _ _ hy3
      refine ⟨l, ys, _, rfl, rfl, hy4, by rw [sizeLine_eq]; omega, ?_⟩
      have w1 := RowA.ts (TS.lst (o := .lst (ys ++ [.ref c3])) hy4) (r := .wr y.q y.a 0 y.b 0 (2 * (s : Int) + (m * y.q + y.a : Nat))) (v := .ref c3) ⟨c3, .ref c1, .ref c2, rfl, upd_same, ⟨c1, rfl, (q3.trans q4) _ _ upd_same⟩, ⟨c2, rfl, q4 _ _ upd_same⟩⟩
      have A1 := (hy2.mono (fun _ _ z => RowA.ts ((Same.ts (q1.trans q24)).trans (TS.lst (o := .lst (ys ++ [.ref c3])) hy4)) z)).snoc w1
      have kk4 := (kk3.same q24).up (o := .lst (ys ++ [.ref c3]))
      generalize eH4 : upd (upd (upd (upd (upd H2 t1 (.tup [.int (2 * (s : Int) + (m * y.q + y.a : Nat)), .int (2 * (s : Int) + (m * s : Nat) + (m * y.q + y.a : Nat))])) c1 (.tup [.int (y.a : Nat), .int 0])) c2 (.tup [.int y.b, .int 0])) c3 (.tup [.str "write", .int (y.q : Nat), .ref c1, .ref c2, .int (2 * (s : Int) + (m * y.q + y.a : Nat))])) l (.lst (ys ++ [.ref c3])) = H4 at A1 kk4 ⊢
      have hz4 : H4 l = some (.lst (ys ++ [.ref c3])) := by rw [← eH4]; exact upd_same
      -- rows.append(("move", ..))
      refine ⟨_, rfl, .inl ⟨rfl, _, SqL.of hz4⟩, _, rfl, _, rfl, (by show 2 ≤ sizeLine; decide), fun c4 hc4 => ?_⟩
      have q5 := nw (o := .tup [.int y.d, .int 0]) hc4
      refine ⟨_, rfl, (by show 4 ≤ sizeLine; decide), fun c5 hc5 => ?_⟩
      have q6 := nw (o := .tup [.str "move", .int (2 * (s : Int) + (m * y.q + y.a : Nat)), .ref c4, .int (2 * (s : Int) + (m * s : Nat) + (m * y.q + y.a : Nat))]) hc5
      have q56 := q5.trans q6
      have hz5 := q56 _ _ hz4
      refine ⟨l, _, _, rfl, rfl, hz5, by rw [sizeLine_eq, List.length_append, List.length_singleton]; omega, ?_⟩
      have w2 := RowA.ts (TS.lst (o := .lst (ys ++ [.ref c3] ++ [.ref c5])) hz5) (r := .mv (2 * (s : Int) + (m * y.q + y.a : Nat)) y.d 0 (2 * (s : Int) + (m * s : Nat) + (m * y.q + y.a : Nat))) (v := .ref c5) ⟨c5, .ref c4, rfl, upd_same, ⟨c4, rfl, q6 _ _ upd_same⟩⟩
      have A2 := (A1.mono (fun _ _ z => RowA.ts ((Same.ts q56).trans (TS.lst (o := .lst (ys ++ [.ref c3] ++ [.ref c5])) hz5)) z)).snoc w2
      have kk5 := (kk4.same q56).up (o := .lst (ys ++ [.ref c3] ++ [.ref c5]))
      generalize eH5 : upd (upd (upd H4 c4 (.tup [.int y.d, .int 0])) c5 (.tup [.str "move", .int (2 * (s : Int) + (m * y.q + y.a : Nat)), .ref c4, .int (2 * (s : Int) + (m * s : Nat) + (m * y.q + y.a : Nat))])) l (.lst (ys ++ [.ref c3] ++ [.ref c5])) = H5 at A2 kk5 ⊢
      have hz6 : H5 l = some (.lst (ys ++ [.ref c3] ++ [.ref c5])) := by rw [← eH5]; exact upd_same
      -- rows.extend([..])
      refine ⟨_, rfl, .inl ⟨rfl, _, SqL.of hz6⟩, _, rfl, (m : Int), rfl, by omega, by omega, fun L hL => ?_⟩
      refine lc_mapR (walk_range0 (n := (m : Int).toNat)) (fun j v H => RowA H v (noteRow m s y j)) hL (by rw [sizeLine_eq]; omega) (fun j v H H' k r => r.ts k) (fun _ _ => True.intro) yFn_same ?_ ?_
      · rintro j v H6 H6' NX lt s6 ⟨rfl, rfl⟩ k
        refine ⟨rfl, _, rfl, _, rfl, (by show 2 ≤ sizeLine; decide), fun g1 hg1 => ?_⟩
        have z1 := nw (o := .tup [.int (j : Nat), .int 0]) hg1
        refine ⟨_, rfl, _, rfl, _, _, rfl, rfl, (by show 2 ≤ sizeLine; decide), fun g2 hg2 => ?_⟩
        have z2 := nw (o := .tup [.int (j : Nat), .int ((m * y.q + y.a : Nat) + 1)]) hg2
        refine ⟨_, rfl, _, rfl, _, _, rfl, rfl, (by show 5 ≤ sizeLine; decide), fun g3 hg3 => ?_⟩
        have z3 := nw (o := .tup [.str "write", .int (2 * (s : Int) + (m * s : Nat) + (m * y.q + y.a : Nat)), .ref g1, .ref g2, .int ((s : Int) + y.t)]) hg3
        exact k _ _ ((z1.trans z2).trans z3) ⟨g3, .ref g1, .ref g2, rfl, upd_same, ⟨g1, rfl, (z2.trans z3) _ _ upd_same⟩, ⟨g2, rfl, z3 _ _ upd_same⟩⟩
      · intro H6 acc s6 eD la rA
        have em : (m : Int).toNat = m := by omega
        rw [em] at la
        have hz7 := s6 _ _ hz6
        refine ⟨l, L, _, acc, rfl, rfl, hz7, eD, by rw [sizeLine_eq, List.length_append, List.length_append, List.length_singleton, List.length_singleton]; omega, ?_⟩
        have tL := TS.lst (o := .lst (ys ++ [.ref c3] ++ [.ref c5] ++ acc)) hz7
        have A3 := (A2.mono (fun _ _ z => RowA.ts ((Same.ts s6).trans tL) z)).app (al_range la fun j v e => (rA j v e).ts tL)
        refine ⟨(kk5.same s6).up, ⟨_, upd_same, ?_⟩, _, _, _, _, _, _, _, _, rfl⟩
        rw [tk, List.flatMap_append, List.flatMap_cons, List.flatMap_nil, List.append_nil]
        have ee : (List.flatMap (prRows m s) ((prs m s R).take i)) ++ prRows m s y = (List.flatMap (prRows m s) ((prs m s R).take i) ++ [.wr y.q y.a 0 y.b 0 (2 * (s : Int) + (m * y.q + y.a : Nat))] ++ [.mv (2 * (s : Int) + (m * y.q + y.a : Nat)) y.d 0 (2 * (s : Int) + (m * s : Nat) + (m * y.q + y.a : Nat))]) ++ (List.range m).map (noteRow m s y) := by
          unfold prRows
          simp only [List.append_assoc, List.singleton_append, List.cons_append, List.nil_append]
        rw [ee]
        exact A3
    · rintro σ H2 ⟨k2, ⟨ys, hy1, hy2⟩, v4, v5, v6, v7, v8, v9, v10, v11, rfl⟩
      rw [hps.1, List.take_length] at hy2
      have hlen := take_len (R := R) m8 s40 (prs m s R).length
      rw [List.take_length] at hlen
      have hly := hy2.1
      refine ⟨_, rfl, .inl ⟨rfl, _, SqL.of hy1⟩, _, rfl, (s : Int), rfl, by omega, by omega, fun L hL => ?_⟩
      refine lc_mapR (walk_range0 (n := (s : Int).toNat)) (fun j v H => RowA H v (.mv ((s : Int) + (j : Nat)) 0 1 (j : Nat))) hL (by rw [sizeLine_eq]; omega) (fun j v H H' k r => r.ts k) (fun _ _ => True.intro) yFn_same ?_ ?_
      · rintro j v H6 H6' NX lt s6 ⟨rfl, rfl⟩ k
        refine ⟨rfl, _, rfl, _, rfl, _, _, rfl, rfl, (by show 2 ≤ sizeLine; decide), fun g1 hg1 => ?_⟩
        have z1 := nw (o := .tup [.int 0, .int 1]) hg1
        refine ⟨_, rfl, (by show 4 ≤ sizeLine; decide), fun g3 hg3 => ?_⟩
        have z3 := nw (o := .tup [.str "move", .int ((s : Int) + (j : Nat)), .ref g1, .int (j : Nat)]) hg3
        exact k _ _ (z1.trans z3) ⟨g3, .ref g1, rfl, upd_same, ⟨g1, rfl, z3 _ _ upd_same⟩⟩
      · intro H6 acc s6 eD la rA
        have em : (s : Int).toNat = s := by omega
        rw [em] at la
        have hz7 := s6 _ _ hy1
        refine ⟨l, L, _, acc, rfl, rfl, hz7, eD, by rw [sizeLine_eq]; omega, ?_⟩
        have tL := TS.lst (o := .lst (ys ++ acc)) hz7
        have A3 := (hy2.mono (fun _ _ z => RowA.ts ((Same.ts s6).trans tL) z)).app (al_range la fun j v e => (rA j v e).ts tL)
        refine ⟨_, rfl, q _ l _ (fun b o e => ?_) upd_same A3⟩
        have nb : b ≠ l := ne_of_none e l0
        exact ((k2.same s6).up) _ _ nb (s12 _ _ e)
end
end Bs

/-! History.__init__, down, up -/
namespace Bs
open PySem L2
theorem SevO.kp {CS : Addr} {H H' : Hp} {p : Addr} {rs : List Row} (k : Kp H H') (hp : ∀ o, H p = some o → H' p = some o) (t : SevO CS H p rs) : SevO CS H' p rs := by
  obtain ⟨dx, fs, d1, d2, h1, h2, h3, h4, h5, h6, h7⟩ := t.ex
  exact ⟨⟨dx, fs, d1, d2, hp _ h1, h2, h3, h4, h5, h6.kp k, h7.kp k⟩, t.fw, t.bw⟩
theorem TapeO.but {CT : Addr} {H H' : Hp} {p x : Addr} {m s : Int} {xs : List V} (k : But x H H') (hx : ∀ dx fs, H x = some (.ins CT dx fs) → False) (hl : ∀ ys, H x = some (.lst ys) → False) (t : TapeO CT H p m s xs) : TapeO CT H' p m s xs := by
  obtain ⟨dx, fs, rl, h1, h2, h3, h4, h5, h6⟩ := t.ex
  exact ⟨dx, fs, rl, k _ _ (fun z => hx _ _ (by rw [← z]; exact h1)) h1, h2, h3, h4, h5, k _ _ (fun z => hl _ (by rw [← z]; exact h6)) h6⟩
theorem low_ok {m s : Nat} {R : List URow} (u : UOk m s R) (s1 : 1 ≤ s) : ∀ r ∈ lowRows m s R, RowOk (m * s + 1) (2 * s + 2 * (m * s)) r := by
  intro r hr
  have m0 := u.m0
  have hms : m ≤ m * s := Nat.le_mul_of_pos_right m s1
  rcases low_mem hr with ⟨x, o, hx⟩ | ⟨q, hq, e⟩
  · have h1 := o.q
    have h2 := o.a
    have h3 := num_top o.q o.a
    obtain ⟨⟨b1, b2⟩, d1, ⟨t1, t2⟩⟩ := u.ok _ _ _ _ o.at_
    rcases prRows_mem hx with e | e | ⟨c, hc, e⟩
    · subst e
      simp only [RowOk, InM]
      omega
    · subst e
      simp only [RowOk, InM]
      omega
    · subst e
      simp only [RowOk, noteRow, InM]
      omega
  · subst e
    simp only [RowOk, InM]
    omega
/-- a History of the Tape at p, its lower machine at low -/
structure HisO (CT CS CH : Addr) (H : Hp) (h p low : Addr) (m s : Nat) (xs : List V) (R : List URow) : Prop where
  ex : ∃ dx fs, H h = some (.ins CH dx fs) ∧ fs.lookup ("upper" : Str) = some (.ref p) ∧ fs.lookup ("lower" : Str) = some (.ref low) ∧ (∀ g : Str, ¬ g = "upper" → ¬ g = "_pairs" → ¬ g = "lower" → fs.lookup g = none)
  tape : TapeO CT H p m s xs
  low : SevO CS H low (lowRows m s R)
theorem HisO.same {CT CS CH : Addr} {H H' : Hp} {h p low : Addr} {m s : Nat} {xs : List V} {R : List URow} (k : Same H H') (t : HisO CT CS CH H h p low m s xs R) : HisO CT CS CH H' h p low m s xs R := by
  obtain ⟨dx, fs, h1, h2, h3, h4⟩ := t.ex
  exact ⟨⟨dx, fs, k _ _ h1, h2, h3, h4⟩, t.tape.same k, t.low.same k⟩
theorem range_getD (l : List Int) : ((List.range l.length).map fun i => V.int (l.getD i 0)) = l.map V.int := by
  apply List.ext_getElem?
  intro i
  rw [List.getElem?_map, List.getElem?_map]
  by_cases hi : i < l.length
  · rw [List.getElem?_range hi, List.getElem?_eq_getElem hi]
    simp [List.getD, hi]
  · rw [List.getElem?_eq_none (by rw [List.length_range]; omega), List.getElem?_eq_none (by omega)]
    rfl
theorem notes_len (m : Nat) (p : Past) : (notes m p).length = p.length := by
  unfold notes
  rw [List.length_reverse, List.length_map]
theorem notes_at {m : Nat} {p : Past} {i : Nat} {x : Int × Int} (hi : i < p.length) (h : p[p.length - 1 - i]? = some x) : (notes m p)[i]? = some (noteOf m x) := by
  unfold notes
  rw [List.getElem?_reverse (by rw [List.length_map]; exact hi), List.length_map, List.getElem?_map, h]
  rfl
section
variable {P : Program} {w : World} {K : PySem.W.Frag} {mg : Str → Option Value} {base : Heap} {CT CS CH : Addr}
abbrev sHInit : Stmt := inClass (top 28) 0
def spHInit (CT CS CH : Addr) : Sp := fun vs H Q _ => ∃ (h dx p : Addr) (m s : Nat) (xs : List V) (R : List URow), vs = [.ref h, .ref p] ∧ H h = some (.ins CH dx []) ∧ TapeO CT H p m s xs ∧ h ≠ p ∧ Al (URA H) xs R ∧ UOk m s R ∧ 2 ≤ m ∧ m ≤ 8 ∧ 1 ≤ s ∧ s ≤ 40 ∧
  ∀ H' low, But h H H' → HisO CT CS CH H' h p low m s xs R → Q .non H'
theorem scHInit : FnScope ["self", "machine"] ["self", "machine"] (defScope sHInit) := ⟨rfl, rfl, rfl, by decide +kernel, rfl, by decide +kernel, by decide +kernel⟩
theorem TapeO.but2 {CT C dx : Addr} {H H' : Hp} {p x : Addr} {m s : Int} {xs : List V} {fs : List (Str × V)} (k : But x H H') (hx : H x = some (.ins C dx fs)) (n : x ≠ p) (t : TapeO CT H p m s xs) : TapeO CT H' p m s xs := by
  obtain ⟨dx', fs', rl, h1, h2, h3, h4, h5, h6⟩ := t.ex
  exact ⟨dx', fs', rl, k _ _ n.symm h1, h2, h3, h4, h5, k _ _ (ne_of h6 hx (by intro z; cases z)) h6⟩
theorem ok_hInit (T : Txt K mg CT CS CH) (D : DefI K CH "History.__init__" sHInit ["self", "machine"]) (N : OkM P w K mg base 4 CH "_rows" ["self"] (spRows CT CH)) (M : OkI P w K mg base 4 CS ["self", "tapes", "marks", "states", "rows"] (spSInit CS)) :
    OkI P w K mg base 6 CH ["self", "machine"] (spHInit CT CS CH) := by
  obtain ⟨f, fd, g, b, F⟩ := D
  obtain ⟨fN, fdN, mN, bN, GN⟩ := N
  obtain ⟨fM, fdM, mM, bM, GM⟩ := M
  refine ⟨f, fd, g, b, F.ok scHInit (fun vs H Q E h => ?_) (fun cdv A outer s0 H vs Q E hr h => ?_)⟩
  · obtain ⟨h, dx, p, m, s, xs, R, rfl, _⟩ := h
    rfl
  · obtain ⟨h, dx, p, m, s, xs, R, rfl, hh, O, nhp, hR, u, m2, m8, s1, s40, q⟩ := h
    have hr4 : Room 4 _ := hr.mono (by decide)
    refine ⟨_, pss_cons (ps_fld (pv 0) (pv 1) rfl) (pss_cons (ps_fld (pv 0) (pe_op op_mul (pe_fld (pv 1) rfl) (pe_fld (pv 1) rfl)) rfl)
      (pss_one (ps_fld (pv 0) (pe_make mM GM hr (by rfl) T.gS bM .nil pass0 (pa_cons pe_int (pa_cons (pe_op op_add (pe_fld (pv 0) rfl) pe_int) (pa_cons (pe_op op_add (pe_op op_mul pe_int (pe_fld (pv 1) rfl)) (pe_op op_mul pe_int (pe_fld (pv 0) rfl))) (pa_cons (pe_meth0 (pv 0) T.cH mN GN hr4 bN .nil pass0) pa_nil))))) rfl))), ?_⟩
    refine ⟨_, rfl, _, rfl, h, CH, dx, [], rfl, hh, T.cH, T.hUpper, by decide, ?_⟩
    have b1 : But h H (upd H h (.ins CH dx (putF "upper" (.ref p) []))) := (But.refl h H).up
    obtain ⟨dx', fs', rl, h1, h2, h3, h4, h5, h6⟩ := (TapeO.but2 b1 hh nhp O).ex
    refine ⟨_, rfl, p, CT, dx', fs', _, rfl, h1, T.cT, T.tMarks, h2, _, rfl, p, CT, dx', fs', _, rfl, h1, T.cT, T.tStates, h3, _, _, rfl, rfl, .inl ⟨by omega, by omega⟩, _, rfl, h, CH, dx, _, rfl, upd_same, T.cH, T.hPairs, Nat.lt_of_le_of_lt (pl pl0) (by decide), ?_⟩
    rw [upd_upd]
    generalize ef2 : putF "_pairs" (.int ((m : Int) * (s : Int))) (putF "upper" (.ref p) []) = f2
    generalize eH2 : upd H h (.ins CH dx f2) = H2
    have b2 : But h H H2 := by rw [← eH2]; exact (But.refl h H).up
    have p2 : H2 h = some (.ins CH dx f2) := by rw [← eH2]; exact upd_same
    have O2 := TapeO.but2 b2 hh nhp O
    have n2 : f2.length ≤ 2 := by rw [← ef2]; exact pl (pl pl0)
    have k2u : f2.lookup ("upper" : Str) = some (.ref p) := by rw [← ef2, lookup_putF, if_neg (by decide +kernel), lookup_putF, if_pos rfl]
    have k2p : f2.lookup ("_pairs" : Str) = some (.int (m * s : Nat)) := by rw [← ef2, lookup_putF, if_pos rfl]; rfl
    have k2n : ∀ g : Str, ¬ g = "upper" → ¬ g = "_pairs" → f2.lookup g = none := fun g g1 g2 => by
      rw [← ef2, lookup_putF, if_neg g2, lookup_putF, if_neg g1]
      rfl
    have ins : ∀ ys, HO.ins CH dx [] ≠ HO.tup ys := by intro ys z; cases z
    have R2 := hR.mono (fun _ _ z => URA.ts (b2.ts hh ins) z)
    obtain ⟨dx', fs', rl, h1, h2, h3, h4, h5, h6⟩ := O2.ex
    have hms : m * s ≤ 8 * 40 := Nat.mul_le_mul m8 s40
    have hms1 : 2 * 1 ≤ m * s := Nat.mul_le_mul m2 s1
    refine ⟨_, rfl, h, CH, dx, _, _, rfl, p2, T.cH, T.hPairs, k2p, _, _, rfl, rfl, ?_⟩
    refine ⟨_, rfl, p, CT, dx', fs', _, rfl, h1, T.cT, T.tStates, h3, _, _, rfl, rfl, .inl ⟨by decide, by decide⟩, _, rfl, h, CH, dx, _, _, rfl, p2, T.cH, T.hPairs, k2p, _, _, rfl, rfl, .inl ⟨by decide, by decide⟩, _, _, rfl, rfl, ?_⟩
    refine ⟨_, rfl, h, dx, _, rfl, p2, k2n _ (by decide +kernel) (by decide +kernel), h, p, m, s, xs, R, rfl, ⟨dx, _, p2, k2u⟩, ⟨dx, _, p2, k2p⟩, O2, R2, u, m8, s40, fun H3 l ys s3 hl hA => ?_⟩
    intro x dx2 nx ndx ne
    have sn : Same H3 (upd (upd H3 dx2 (.own x)) x (.ins CS dx2 [])) := fun b o e => by
      rw [upd_ne (ne_of_none e nx), upd_ne (ne_of_none e ndx)]
      exact e
    refine ⟨x, dx2, l, m * s + 1, 2 * s + 2 * (m * s), ys, lowRows m s R, rfl, upd_same, sn _ _ hl, hA.mono (fun _ _ z => RowA.ts (Same.ts sn) z), by omega, by omega, by omega, by omega, low_len m8 s40, low_ok u s1, low_nc u, low_ncb u, fun H4 k4 O4 => ⟨rfl, ?_⟩⟩
    have p3 := s3 _ _ p2
    have nhx : h ≠ x := ne_of_none p3 nx
    have p4 : H4 h = some (.ins CH dx f2) := k4 _ _ nhx (sn _ _ p3)
    refine ⟨_, rfl, h, CH, dx, _, rfl, p4, T.cH, T.hLower, Nat.lt_of_le_of_lt n2 (by decide), ?_⟩
    have O3 := (O2.same s3).same sn
    have nxp : x ≠ p := by
      obtain ⟨dx'', fs'', _, g1, _⟩ := (O2.same s3).ex
      exact fun z => ne_of_none g1 nx z.symm
    have O4' := TapeO.but2 k4 upd_same nxp O3
    refine q _ x (fun b o nb e => ?_) ⟨⟨dx, _, upd_same, ?_, ?_, fun g g1 g2 g3 => ?_⟩, TapeO.but2 (But.refl h H4).up p4 nhp O4', O4.kp (.up p4) fun o e => by rw [upd_ne nhx.symm]; exact e⟩
    · have e3 := s3 _ _ (b2 _ _ nb e)
      rw [upd_ne nb]
      exact k4 _ _ (ne_of_none e3 nx) (sn _ _ e3)
    · rw [lookup_putF, if_neg (by decide +kernel)]
      exact k2u
    · rw [lookup_putF, if_pos rfl]
    · rw [lookup_putF, if_neg g3]
      exact k2n g g1 g2
end
end Bs

/-! History.down, History.up -/
namespace Bs
open PySem L2
/-- what up answers: a configuration and its past -/
def UpA (H : Hp) (u : V) (c : UC) (p : Past) : Prop := ∃ a x y, u = .ref a ∧ H a = some (.tup [x, y]) ∧ UCA H x c ∧ PastA H y p
theorem al_pairs {H : Hp} {acc : List V} {p : Past} (la : acc.length = p.length) (r : ∀ (j : Nat) (v : V), acc[j]? = some v → PA2 H v (p.getD j (0, 0))) : Al (PA2 H) acc p := by
  refine ⟨la, fun i x d h1 h2 => ?_⟩
  have z := r i x h1
  have e : p.getD i (0, 0) = d := by
    rw [List.getD_eq_getElem?_getD, h2]
    rfl
  rw [← e]
  exact z
theorem inV_pos {l : List Int} (h : ∀ x ∈ l, 0 < x) : inV (.int 0) (l.map V.int) = false := by
  unfold inV
  rw [List.any_eq_false]
  intro y hy
  obtain ⟨n, hn, e⟩ := List.mem_map.mp hy
  have := h n hn
  rw [← e]
  simp [eqV]
  omega
theorem flat_ints (l : List Int) : (l.map V.int).all flatV = true := by
  rw [List.all_eq_true]
  intro x hx
  obtain ⟨n, _, e⟩ := List.mem_map.mp hx
  rw [← e]
  rfl
section
variable {P : Program} {w : World} {K : PySem.W.Frag} {mg : Str → Option Value} {base : Heap} {CT CS CH : Addr}
abbrev sDown : Stmt := inClass (top 28) 2
def spDown (CT CS CH : Addr) : Sp := fun vs H Q _ => ∃ (h p low : Addr) (m s : Nat) (xs : List V) (R : List URow) (v u : V) (c : UC) (ps : Past), vs = [.ref h, v, u] ∧ HisO CT CS CH H h p low m s xs R ∧ m ≤ 8 ∧ UCA H v c ∧ PastA H u ps ∧ ps.length ≤ 10000 ∧
  ∀ H' r, Same H H' → LCA H' r (down m c ps) → Q r H'
theorem scDown : FnScope ["self", "configuration", "past", "state", "left", "mark", "right", "notes", "q", "a"] ["self", "configuration", "past"] (defScope sDown) := ⟨rfl, rfl, rfl, by decide +kernel, rfl, by decide +kernel, by decide +kernel⟩
theorem ok_down (T : Txt K mg CT CS CH) (D : DefM K CH "down" "History.down" sDown ["self", "configuration", "past"]) : OkM P w K mg base 1 CH "down" ["self", "configuration", "past"] (spDown CT CS CH) := by
  obtain ⟨f, fd, g, b, F⟩ := D
  refine ⟨f, fd, g, b, F.ok scDown (fun vs H Q E h => ?_) (fun cdv A outer s0 H vs Q E hr h => ?_)⟩
  · obtain ⟨h, p, low, m, s, xs, R, v, u, c, ps, rfl, _⟩ := h
    rfl
  · obtain ⟨h, p, low, m, s, xs, R, v, u, c, ps, rfl, O, m8, ⟨a, x, y, rfl, ha, hx, hy⟩, ⟨ap, pv_, rfl, hap, hal⟩, hl, q⟩ := h
    refine ⟨_, pss_cons (ps_asg (pv 1) (pg_tup (by rfl) (pgs_cons (pg_name (i := 3) scDown.nd rfl (Or.inl rfl)) (pgs_cons (pg_name (i := 4) scDown.nd rfl (Or.inl rfl)) (pgs_cons (pg_name (i := 5) scDown.nd rfl (Or.inl rfl)) (pgs_cons (pg_name (i := 6) scDown.nd rfl (Or.inl rfl)) pgs_nil))))))
      (pss_cons (ps_set (i := 7) scDown.nd rfl (Or.inl rfl) (pe_callTy call_tuple_of (by rfl) T.tuple bTuple (pa_cons
        (pe_lc (own := [("q", 8), ("a", 9)]) (g := gTup K 2 (gCons (gName 8) (gCons (gName 9) gNil))) (tt := tYes) (te := tOp (rI0 fun i j => .int (i + j)) (tOp (rI0 fun i j => .int (i + j)) (tOp (rI CMul fun i j => .int (i * j)) (tFld K (tFld K (tVar 0) "upper") "marks") (tVar 8)) (tVar 9)) (tC (.int 1)))
          rfl scDown.nd (RT.pi_revA (by rfl) T.reversed (pv 2)) (blkOk_by (N := ["self", "configuration", "past", "state", "left", "mark", "right", "notes", "q", "a"]) (sc := defScope sDown) (by decide +kernel))
          (fun _ _ _ _ _ => pg_tup rfl (pgs_cons (pg_name (i := 8) scDown.nd rfl (Or.inl rfl)) (pgs_cons (pg_name (i := 9) scDown.nd rfl (Or.inl rfl)) pgs_nil))) (fun _ _ _ _ _ => pts_nil)
          (fun _ _ _ _ _ => pe_op op_add (pe_op op_add (pe_op op_mul (pe_fld (pe_fld (pv 0) (by rfl)) (by rfl)) (pv 8)) (pv 9)) pe_int)) pa_nil)))
      (pss_one (ps_ret (pe_tup (pa_cons (pv 3) (pa_cons (pe_tup (pa_cons (pe_tup (pa_cons (pv 4) (pa_cons (pv 5) (pa_cons (pv 6) pa_nil)))) (pa_cons (pe_tup (pa_cons (pv 7) (pa_cons pe_int (pa_cons (pe_tup pa_nil) pa_nil)))) pa_nil))) pa_nil)))))), ?_⟩
    refine ⟨_, rfl, a, _, rfl, SqT.of ha, rfl, _, _, rfl, _, _, rfl, _, _, rfl, _, _, rfl, rfl, ?_⟩
    refine ⟨_, rfl, ap, pv_, rfl, .inr ⟨SqT.of hap, fun L hL => ?_⟩⟩
    have lp : pv_.length = ps.length := hal.1
    refine lc_mapR walk_revT (fun j v _ => v = .int ((notes m ps).getD j 0)) hL (by rw [sizeLine_eq]; omega) (fun _ _ _ _ _ h => h) (fun H' s => SqT.of (s _ _ hap)) (fun i H x H' y => by rw [y.1]; exact .refl H) ?_ ?_
    · rintro i z H1 H1' NX lt s1 ⟨rfl, hz⟩ k
      obtain ⟨d, hd, hA⟩ := hal.of hz
      rw [lp] at hd lt
      have nd := notes_at (m := m) lt hd
      obtain ⟨a2, rfl, ha2⟩ := hA.ts (Same.ts s1)
      obtain ⟨du, fu, g1, g2, _, _⟩ := O.ex
      obtain ⟨dx, fs, rl, h1, h2, h3, h4, h5, h6⟩ := O.tape.ex
      refine ⟨a2, _, rfl, SqT.of ha2, rfl, _, _, rfl, _, _, rfl, rfl, rfl, ?_⟩
      refine ⟨_, rfl, h, CH, du, fu, _, rfl, s1 _ _ g1, T.cH, T.hUpper, g2, p, CT, dx, fs, _, rfl, s1 _ _ h1, T.cT, T.tMarks, h2, _, rfl, _, _, rfl, rfl, .inl ⟨by omega, by omega⟩, _, rfl, _, _, rfl, rfl, _, _, rfl, rfl, k _ _ (.refl _) ?_⟩
      rw [List.getD_eq_getElem?_getD, nd]
      rfl
    · intro H1 acc s1 eD la r
      have ea := acc_eq (f := fun i => V.int ((notes m ps).getD i 0)) la r
      rw [lp, ← notes_len m ps, range_getD] at ea
      subst ea
      refine ⟨L, _, rfl, .inl ⟨SqL.of eD, fun t ht => ?_⟩⟩
      have s2 := nw (o := .tup ((notes m ps).map V.int)) ht
      refine ⟨_, rfl, _, rfl, _, rfl, _, rfl, (by show 3 ≤ sizeLine; decide), fun t1 ht1 => ?_⟩
      have s3 := nw (o := .tup [x, .int c.t.m, y]) ht1
      refine ⟨_, rfl, Nat.zero_le _, fun t2 ht2 => ?_⟩
      have s4 := nw (o := .tup []) ht2
      refine ⟨(by show 3 ≤ sizeLine; decide), fun t3 ht3 => ?_⟩
      have s5 := nw (o := .tup [.ref t, .int 0, .ref t2]) ht3
      refine ⟨(by show 2 ≤ sizeLine; decide), fun t4 ht4 => ?_⟩
      have s6 := nw (o := .tup [.ref t1, .ref t3]) ht4
      refine ⟨(by show 2 ≤ sizeLine; decide), fun t5 ht5 => ?_⟩
      have s7 := nw (o := .tup [.int c.q, .ref t4]) ht5
      have s57 := (s5.trans s6).trans s7
      have s47 := s4.trans s57
      have s37 := s3.trans s47
      have s17 := (s1.trans s2).trans s37
      exact q _ _ s17 ⟨t5, t4, .ref t1, .ref t3, rfl, upd_same, s7 _ _ upd_same, ⟨t1, x, y, rfl, s47 _ _ upd_same, hx.ts (Same.ts s17), hy.ts (Same.ts s17)⟩, ⟨t3, .ref t, .ref t2, rfl, (s6.trans s7) _ _ upd_same, ⟨t, rfl, s37 _ _ upd_same⟩, ⟨t2, rfl, s57 _ _ upd_same⟩⟩⟩
abbrev sUp : Stmt := inClass (top 28) 3
def spUp (CT CS CH : Addr) : Sp := fun vs H Q _ => ∃ (h p low : Addr) (m s : Nat) (xs : List V) (R : List URow) (v : V) (C : LC), vs = [.ref h, v] ∧ HisO CT CS CH H h p low m s xs R ∧ LCA H v C ∧
  (((s : Int) ≤ C.q ∧ ∀ H', Same H H' → Q .non H') ∨ ∃ c ps, C = down m c ps ∧ 0 < m ∧ m ≤ 8 ∧ UCok m s c ∧ PastOk m s ps ∧ c.t.wt ≤ 1000000 ∧ ps.length ≤ 10000 ∧ ∀ H' r, Same H H' → UpA H' r c ps → Q r H')
theorem scUp : FnScope ["self", "configuration", "state", "left", "mark", "right", "notes", "under", "beyond", "found", "note"] ["self", "configuration"] (defScope sUp) := ⟨rfl, rfl, rfl, by decide +kernel, rfl, by decide +kernel, by decide +kernel⟩
theorem ok_up (T : Txt K mg CT CS CH) (D : DefM K CH "up" "History.up" sUp ["self", "configuration"]) (M : OkM P w K mg base 3 CT "is_configuration" ["self", "value"] (spTConf CT)) : OkM P w K mg base 4 CH "up" ["self", "configuration"] (spUp CT CS CH) := by
  obtain ⟨f, fd, g, b, F⟩ := D
  obtain ⟨fM, fdM, mM, bM, GM⟩ := M
  refine ⟨f, fd, g, b, F.ok scUp (fun vs H Q E h => ?_) (fun cdv A outer s0 H vs Q E hr h => ?_)⟩
  · obtain ⟨h, p, low, m, s, xs, R, v, C, rfl, _⟩ := h
    rfl
  · obtain ⟨h, p, low, m, s, xs, R, v, C, rfl, O, ⟨a, b2, x, y, rfl, ha, hb, ⟨ax, x1, x2, rfl, hax, hx1, hx2⟩, ⟨ay, y1, y2, rfl, hay, hy1, hy2⟩⟩, hC⟩ := h
    refine ⟨_, pss_cons (ps_asg (pv 1) (pg_tup (by rfl) (pgs_cons (pg_name (i := 2) scUp.nd rfl (Or.inl rfl)) (pgs_cons (pg_tup (by rfl) (pgs_cons (pg_tup (by rfl) (pgs_cons (pg_name (i := 3) scUp.nd rfl (Or.inl rfl)) (pgs_cons (pg_name (i := 4) scUp.nd rfl (Or.inl rfl)) (pgs_cons (pg_name (i := 5) scUp.nd rfl (Or.inl rfl)) pgs_nil))))
          (pgs_cons (pg_tup (by rfl) (pgs_cons (pg_name (i := 6) scUp.nd rfl (Or.inl rfl)) (pgs_cons (pg_name (i := 7) scUp.nd rfl (Or.inl rfl)) (pgs_cons (pg_name (i := 8) scUp.nd rfl (Or.inl rfl)) pgs_nil)))) pgs_nil))) pgs_nil))))
      (pss_cons (ps_if (PW.pt (pw_or (pt_cmpR op_ge (pv 2) (pe_fld (pe_fld (pv 0) rfl) rfl) (nomark _)) (pw_or (pt_cmpR op_ne (pv 7) pe_int (nomark _)) (pw_or (pt_cmpR (by exact op_neD hr.units) (pv 8) (pe_tup pa_nil) (nomark _)) (pw_or1 (pt_cmpR op_in_seq pe_int (pv 6) (by rfl))))))) (pss_one (ps_ret pe_non)) pss_nil)
      (pss_cons (ps_set (i := 9) scUp.nd rfl (Or.inl rfl) (pe_tup (pa_cons (pv 2) (pa_cons (pv 3) (pa_cons (pv 4) (pa_cons (pv 5) pa_nil))))))
      (pss_cons (ps_if (pt_not (pt_val (pe_meth (pe_fld (pv 0) rfl) T.cT mM GM hr bM .nil pass0 (pa_cons (pv 9) pa_nil)))) (pss_one (ps_ret pe_non)) pss_nil)
      (pss_one (ps_ret (pe_tup (pa_cons (pv 9) (pa_cons (pe_callTy call_tuple_of (by rfl) T.tuple bTuple (pa_cons
        (pe_lc (own := [("note", 10)]) (g := gName 10) (tt := tYes) (te := tCB (fun xs H Q => ∃ i j, xs = [.int i, .int j] ∧ CDiv i j ∧ ∀ p, H p = none → Q (.ref p) (upd H p (.tup [.int (i / j), .int (i % j)]))) (tCons (tOp (rI0 fun i j => .int (i - j)) (tVar 10) (tC (.int 1))) (tCons (tFld K (tFld K (tVar 0) "upper") "marks") tNil)))
          rfl scUp.nd (RT.pi_revA (by rfl) T.reversed (pv 6)) (blkOk_by (N := ["self", "configuration", "state", "left", "mark", "right", "notes", "under", "beyond", "found", "note"]) (sc := defScope sUp) (by decide +kernel))
          (fun _ _ _ _ _ => pg_name (i := 10) scUp.nd rfl (Or.inl rfl)) (fun _ _ _ _ _ => pts_nil)
          (fun _ _ _ _ _ => pe_callB call_divmod (by rfl) T.divmod bDivmod (pa_cons (pe_op op_sub (pv 10) pe_int) (pa_cons (pe_fld (pe_fld (pv 0) (by rfl)) (by rfl)) pa_nil)))) pa_nil)) pa_nil)))))))), ?_⟩
    obtain ⟨du, fu, g1, g2, _, _⟩ := O.ex
    obtain ⟨dx, fs, rl, h1, h2, h3, h4, h5, h6⟩ := O.tape.ex
    refine ⟨_, rfl, a, _, rfl, SqT.of ha, rfl, _, _, rfl, _, _, rfl, b2, _, rfl, SqT.of hb, rfl, _, _, rfl, ax, _, rfl, SqT.of hax, rfl, _, _, rfl, _, _, rfl, _, _, rfl, rfl, _, _, rfl, ay, _, rfl, SqT.of hay, rfl, _, _, rfl, _, _, rfl, _, _, rfl, rfl, rfl, rfl, ?_⟩
    refine ⟨_, rfl, _, rfl, h, CH, du, fu, _, rfl, g1, T.cH, T.hUpper, g2, p, CT, dx, fs, _, rfl, h1, T.cT, T.tStates, h3, _, _, rfl, rfl, _, rfl, ?_⟩
    rcases hC with ⟨hs, q⟩ | ⟨c, ps, rfl, m0, m8, ok, pok, hw, hl, q⟩
    · rw [decide_eq_true hs]
      exact iteT (iteT (q _ (.refl _)))
    · have eq : (down m c ps).q = c.q := rfl
      rw [decide_eq_false (show ¬ (s : Int) ≤ (down m c ps).q by have := ok.q.2; rw [eq]; omega)]
      refine iteF ?_
      refine ⟨_, rfl, rfl, _, rfl, ?_⟩
      rw [decide_eq_true (show V.int (down m c ps).t1.m = V.int 0 from rfl)]
      refine iteF ?_
      refine ⟨_, rfl, Nat.zero_le _, fun t ht => ?_⟩
      have st := nw (o := .tup []) ht
      refine rd_ne (hy2.ts (Same.ts st)).dp (IT.dp (ns := []) ⟨t, rfl, upd_same⟩) (shp_I _) (by decide) ⟨_, rfl, iteF ?_⟩
      have hnt : IT (upd H t (.tup [])) y1 (notes m ps) := hy1.ts (Same.ts st)
      obtain ⟨an, rfl, han⟩ := hnt
      have np := note_pos pok
      refine ⟨_, rfl, an, _, rfl, .inr (SqT.of han), rfl, flat_ints _, _, rfl, ?_⟩
      rw [if_neg Bool.false_ne_true, inV_pos np]
      refine iteF ?_
      refine ⟨_, rfl, _, rfl, _, rfl, _, rfl, (by show 4 ≤ sizeLine; decide), fun t1 ht1 => ?_⟩
      have s1 := nw (o := .tup [.int c.q, x1, .int c.t.m, x2]) ht1
      have s01 := st.trans s1
      have hU : UCA (upd (upd H t (.tup [])) t1 (.tup [.int c.q, x1, .int c.t.m, x2])) (.ref t1) c := ⟨t1, x1, x2, rfl, upd_same, hx1.ts (Same.ts s01), hx2.ts (Same.ts s01)⟩
      have g1' := s01 _ _ g1
      have h1' := s01 _ _ h1
      refine ⟨_, rfl, h, CH, du, fu, _, rfl, g1', T.cH, T.hUpper, g2, p, dx, fs, rfl, h1', h5 _ (by decide +kernel) (by decide +kernel) (by decide +kernel), _, rfl, p, m, s, xs, _, c, rfl, O.tape.same s01, hU, ok, hw, fun H2 s2 => ⟨true, rfl, iteF ?_⟩⟩
      have s02 := s01.trans s2
      have han2 := s2 _ _ (s1 _ _ han)
      refine ⟨_, rfl, _, rfl, an, _, rfl, .inr ⟨SqT.of han2, fun L hL => ?_⟩⟩
      have ln : ((notes m ps).map V.int).length = ps.length := by rw [List.length_map, notes_len]
      refine lc_mapR walk_revT (fun j v H => PA2 H v (ps.getD j (0, 0))) hL (by rw [ln, sizeLine_eq]; omega) (fun j v H H' k r => r.ts k) (fun H' s => SqT.of (s _ _ han2)) (fun i H x H' y => by rw [y.1]; exact .refl H) ?_ ?_
      · rintro i z H3 H3' NX lt s3 ⟨rfl, hz⟩ k
        rw [ln] at hz lt
        have li : ps.length - 1 - i < ps.length := by omega
        have lj : ps.length - 1 - (ps.length - 1 - i) = i := by omega
        have eP : ps[ps.length - 1 - (ps.length - 1 - i)]? = some ps[i] := by rw [lj]; exact List.getElem?_eq_getElem lt
        have nz := notes_at (m := m) li eP
        rw [List.getElem?_map, nz] at hz
        have ez : V.int (noteOf m ps[i]) = z := Option.some.inj hz
        subst ez
        refine ⟨rfl, _, rfl, _, _, rfl, rfl, _, rfl, h, CH, du, fu, _, rfl, s3 _ _ (s2 _ _ g1'), T.cH, T.hUpper, g2, p, CT, dx, fs, _, rfl, s3 _ _ (s2 _ _ h1'), T.cT, T.tMarks, h2, _, _, rfl, ⟨by omega, by omega⟩, fun t4 ht4 => k _ _ (nw ht4) ?_⟩
        obtain ⟨⟨p1, p2⟩, ⟨p3, p4⟩⟩ := pok ps[i] (List.getElem_mem lt)
        have e0 : noteOf m ps[i] - 1 = ps[i].2 + (m : Int) * ps[i].1 := by unfold noteOf; omega
        have e1 : (noteOf m ps[i] - 1) / (m : Int) = ps[i].1 := by
          rw [e0, Int.add_mul_ediv_left _ _ (by omega), Int.ediv_eq_zero_of_lt p3 p4, Int.zero_add]
        have e2 : (noteOf m ps[i] - 1) % (m : Int) = ps[i].2 := by
          rw [e0, Int.add_mul_emod_self_left]
          exact Int.emod_eq_of_lt p3 p4
        rw [e1, e2]
        refine ⟨t4, rfl, ?_⟩
        rw [upd_same, List.getD_eq_getElem?_getD, List.getElem?_eq_getElem lt]
        rfl
      · intro H3 acc s3 eD la r
        refine ⟨L, acc, rfl, .inl ⟨SqL.of eD, fun t3 ht3 => ⟨(by show 2 ≤ sizeLine; decide), fun t4 ht4 => ?_⟩⟩⟩
        have s4 := nw (o := .tup acc) ht3
        have s5 := nw (o := .tup [.ref t1, .ref t3]) ht4
        have s25 := ((s2.trans s3).trans s4).trans s5
        refine q _ _ ((s01.trans s25)) ⟨t4, .ref t1, .ref t3, rfl, upd_same, hU.ts (Same.ts s25), t3, acc, rfl, s5 _ _ upd_same, ?_⟩
        rw [ln] at la
        exact (al_pairs la r).mono (fun _ _ z => PA2.ts (Same.ts (s4.trans s5)) z)
end
end Bs

/-! the law's own _law_trimmed, _law_step -/
namespace Bs
open PySem L2
theorem cut_last {ns : List Int} (h : ns ≠ []) : cutV (ns.map V.int) none (some (-1)) = ns.dropLast.map V.int := by
  have hl : 0 < ns.length := List.length_pos_iff.mpr h
  unfold cutV
  have e : HT.sIx (ns.map V.int).length (ns.map V.int).length (some (-1)) = ns.length - 1 := by
    rw [List.length_map]
    unfold HT.sIx
    simp only
    split <;> omega
  rw [e, HT.sIx_none, List.drop_zero, Nat.sub_zero, List.dropLast_eq_take, List.map_take]
theorem sIx_m1 {n : Nat} (h : 0 < n) : HT.sIx n n (some (-1)) = n - 1 := by
  unfold HT.sIx
  simp only
  split <;> omega
section
variable {K : PySem.W.Frag} {H : Hp} {Q : VK}
theorem rd_droplast {x : V} {ns : List Int} (h : ns ≠ []) (hx : IT H x ns) (q : ∀ H' u, Same H H' → IT H' u ns.dropLast → Q u H') : rSlA K x none (some (-1)) H Q := by
  obtain ⟨a, rfl, ha⟩ := hx
  have hl : 0 < ns.length := List.length_pos_iff.mpr h
  refine ⟨a, _, rfl, SqT.of ha, fun z => ?_, fun z p hp => ?_⟩
  · have z2 := z.2
    rw [List.length_map, sIx_m1 hl] at z2
    omega
  · exact q _ _ (nw hp) ⟨p, rfl, by rw [upd_same, cut_last h]⟩
theorem last_at {ns : List Int} (h : ns ≠ []) : atI (ns.map V.int) (-1) = some (.int (ns.getLast h)) := by
  have e : ns.map V.int = ns.dropLast.map V.int ++ [.int (ns.getLast h)] := by
    rw [← List.map_singleton, ← List.map_append, List.dropLast_concat_getLast]
  rw [e]
  exact atI_last _ _
end
section
variable {P : Program} {w : World} {K : PySem.W.Frag} {mg : Str → Option Value} {base : Heap} {CT CS CH : Addr}
abbrev sLTrim : Stmt := top 32
def spLTrim : Sp := fun vs H Q _ => ∃ v ns, vs = [v] ∧ IT H v ns ∧ ns.length ≤ 10000000 ∧ ∀ H' u, Same H H' → IT H' u (trim ns) → Q u H'
theorem scLTrim : FnScope ["_law_marks", "_law_k"] ["_law_marks"] (defScope sLTrim) := ⟨rfl, rfl, rfl, by decide +kernel, rfl, by decide +kernel, by decide +kernel⟩
theorem ok_lTrim (T : Txt K mg CT CS CH) (D : DefF K mg "_law_trimmed" sLTrim ["_law_marks"]) : OkF P w K mg base 1 "_law_trimmed" ["_law_marks"] spLTrim := by
  obtain ⟨f, fd, g, b, F⟩ := D
  refine ⟨f, fd, g, F.kp, b, F.ok scLTrim (fun vs H Q E h => ?_) (fun cdv A outer s0 H vs Q E hr h => ?_)⟩
  · obtain ⟨v, ns, rfl, _⟩ := h
    rfl
  · obtain ⟨v, ns, rfl, ⟨a, rfl, ha⟩, hl, q⟩ := h
    refine ⟨_, pss_cons (ps_for PassesOwn.never rfl (pi_range1 rfl T.range (pa_cons (pe_callB call_len_seq (by rfl) T.len PySem.boot_len (pa_cons (pv 0) pa_nil)) pa_nil)) (pg_name (i := 1) scLTrim.nd rfl (Or.inl rfl))
        (pss_one (ps_if (PW.pt (pw_and (pt_cmpR op_gt (pe_callB call_len_seq (by rfl) T.len PySem.boot_len (pa_cons (pv 0) pa_nil)) pe_int (nomark _)) (pw_and1 (pt_cmpR op_eq (pe_ix ix_tup (pv 0) (pe_un un_neg pe_int) (fun _ _ => rfl)) pe_int (nomark _)))))
          (pss_one (ps_set (i := 0) scLTrim.nd rfl (Or.inl rfl) (pe_slice sl_tupA (pv 0) po_none (po_some (pe_un un_neg pe_int))))) pss_nil)))
      (pss_one (ps_ret (pv 0))), ?_⟩
    refine ⟨_, rfl, _, _, rfl, .inr (SqT.of ha), (ns.length : Int), by rw [List.length_map], by omega, by omega, for_range (lo := 0) (n := (ns.length : Int).toNat)
      (fun i σ H' => Same H H' ∧ ∃ v ms vk, σ = [some v, vk] ∧ IT H' v ms ∧ trim ms = trim ns ∧ (trim ms = ms ∨ ms.length + i = ns.length)) ⟨.refl _, _, ns, none, rfl, ⟨a, rfl, ha⟩, rfl, .inr rfl⟩ ?_ ?_⟩
    · rintro i σ H1 hi ⟨s1, v, ms, vk, rfl, ⟨c, rfl, hc⟩, e1, e2⟩
      refine ⟨_, rfl, _, _, rfl, .inr (SqT.of hc), _, _, rfl, rfl, _, rfl, ?_⟩
      by_cases hm : ms = []
      · subst hm
        exact iteF (iteF ⟨s1, _, [], _, rfl, ⟨c, rfl, hc⟩, e1, .inl rfl⟩)
      · have hml : 0 < ms.length := List.length_pos_iff.mpr hm
        rw [decide_eq_true (show (0 : Int) < (((ms.map V.int).length : Nat) : Int) by rw [List.length_map]; omega)]
        refine iteT ?_
        obtain ⟨t1, t2⟩ := trim_last hm
        refine ⟨_, rfl, _, rfl, c, _, _, _, rfl, rfl, SqT.of hc, last_at hm, rfl, _, rfl, ite2 (fun z => ?_) (fun z => ?_)⟩
        · have z0 : ms.getLast hm = 0 := V.int.inj (of_decide_eq_true z)
          refine ⟨_, rfl, 1, rfl, -1, rfl, rd_droplast hm ⟨c, rfl, hc⟩ fun H2 u s2 hu => ?_⟩
          refine ⟨s1.trans s2, u, ms.dropLast, _, rfl, hu, by rw [← t1 z0]; exact e1, .inr ?_⟩
          rcases e2 with e2 | e2
          · have := trim_len ms.dropLast
            rw [← t1 z0, e2, List.length_dropLast] at this
            omega
          · rw [List.length_dropLast]
            omega
        · have z0 : ¬ ms.getLast hm = 0 := fun e => z (decide_eq_true (by rw [e]))
          exact ⟨s1, _, ms, _, rfl, ⟨c, rfl, hc⟩, e1, .inl (t2 z0)⟩
    · rintro σ H1 ⟨s1, v, ms, vk, rfl, hv, e1, e2⟩
      refine ⟨_, rfl, q _ _ s1 ?_⟩
      rw [← e1]
      rcases e2 with e2 | e2
      · rw [e2]
        exact hv
      · have : ms = [] := List.length_eq_zero_iff.mp (by omega)
        rw [this]
        rw [this] at hv
        exact hv
/-- a step's answer -/
def ResU (H : Hp) (u : V) (o : Option UC) : Prop := match o with
  | none => u = .non
  | some c => UCA H u c
abbrev sLStep : Stmt := top 34
def spLStep : Sp := fun vs H Q _ => ∃ (a : Addr) (m s : Nat) (xs : List V) (R : List URow) (v : V) (c : UC), vs = [.ref a, .int (m : Nat), v] ∧ H a = some (.lst xs) ∧ Al (URA H) xs R ∧ UOk m s R ∧ m ≤ 8 ∧ UCA H v c ∧ UCok m s c ∧ c.t.wt ≤ 1000000 ∧
  ∀ H' u, Same H H' → ResU H' u (stepU m R c) → Q u H'
theorem scLStep : FnScope ["_law_rows", "_law_marks", "_law_configuration_here", "_law_state", "_law_left", "_law_mark", "_law_right", "_law_row"] ["_law_rows", "_law_marks", "_law_configuration_here"] (defScope sLStep) := ⟨rfl, rfl, rfl, by decide +kernel, rfl, by decide +kernel, by decide +kernel⟩
theorem ok_lStep (T : Txt K mg CT CS CH) (D : DefF K mg "_law_step" sLStep ["_law_rows", "_law_marks", "_law_configuration_here"]) (N : OkF P w K mg base 1 "_law_trimmed" ["_law_marks"] spLTrim) :
    OkF P w K mg base 2 "_law_step" ["_law_rows", "_law_marks", "_law_configuration_here"] spLStep := by
  obtain ⟨f, fd, g, b, F⟩ := D
  obtain ⟨fN, fdN, gN, kN, bN, GN⟩ := N
  refine ⟨f, fd, g, F.kp, b, F.ok scLStep (fun vs H Q E h => ?_) (fun cdv A outer s0 H vs Q E hr h => ?_)⟩
  · obtain ⟨a, m, s, xs, R, v, c, rfl, _⟩ := h
    rfl
  · obtain ⟨a, m, s, xs, R, v, c, rfl, ha, hR, u, m8, ⟨av, x, y, rfl, hav, hx, hy⟩, ok, hw, q⟩ := h
    refine ⟨_, pss_cons (ps_asg (pv 2) (pg_tup (by rfl) (pgs_cons (pg_name (i := 3) scLStep.nd rfl (Or.inl rfl)) (pgs_cons (pg_name (i := 4) scLStep.nd rfl (Or.inl rfl)) (pgs_cons (pg_name (i := 5) scLStep.nd rfl (Or.inl rfl)) (pgs_cons (pg_name (i := 6) scLStep.nd rfl (Or.inl rfl)) pgs_nil))))))
      (pss_cons (ps_set (i := 7) scLStep.nd rfl (Or.inl rfl) (pe_ix ix_list (pv 0) (pe_op op_add (pe_op op_mul (pv 3) (pv 1)) (pv 5)) (fun _ _ => rfl)))
      (pss_cons (ps_if (pt_cmpR op_isN (pv 7) pe_non (nomark _)) (pss_one (ps_ret pe_non)) pss_nil)
      (pss_cons (ps_if (pt_cmpR op_eq (pe_ix ix_tup (pv 7) pe_int (fun _ _ => rfl)) pe_int (nomark _))
        (pss_one (ps_ret (pe_tup (pa_cons (pe_ix ix_tup (pv 7) pe_int (fun _ _ => rfl)) (pa_cons (pe_call GN hr (by rfl) gN kN bN .nil pass0 (pa_cons (pe_op op_catA (pe_tup (pa_cons (pe_ix ix_tup (pv 7) pe_int (fun _ _ => rfl)) pa_nil)) (pv 4)) pa_nil))
          (pa_cons (pe_ix ix_tup (pe_op op_catA (pv 6) (pe_tup (pa_cons pe_int pa_nil))) pe_int (fun _ _ => rfl)) (pa_cons (pe_slice sl_tupA (pv 6) (po_some pe_int) po_none) pa_nil))))))) pss_nil)
      (pss_one (ps_ret (pe_tup (pa_cons (pe_ix ix_tup (pv 7) pe_int (fun _ _ => rfl)) (pa_cons (pe_slice sl_tupA (pv 4) (po_some pe_int) po_none)
          (pa_cons (pe_ix ix_tup (pe_op op_catA (pv 4) (pe_tup (pa_cons pe_int pa_nil))) pe_int (fun _ _ => rfl)) (pa_cons (pe_call GN hr (by rfl) gN kN bN .nil pass0 (pa_cons (pe_op op_catA (pe_tup (pa_cons (pe_ix ix_tup (pv 7) pe_int (fun _ _ => rfl)) pa_nil)) (pv 6)) pa_nil)) pa_nil)))))))))), ?_⟩
    refine ⟨_, rfl, av, _, rfl, SqT.of hav, rfl, _, _, rfl, _, _, rfl, _, _, rfl, _, _, rfl, rfl, ?_⟩
    obtain ⟨qn, an, hq, han, eq, ea, er⟩ := row_at u ok
    have hlt := num_top hq han
    have hlx : m * qn + an < R.length := by rw [u.len]; exact hlt
    obtain ⟨rv, hrv1, hrv2⟩ := hR.get (List.getElem?_eq_getElem hlx)
    have hw : c.t.l.length + c.t.r.length ≤ 1000000 := hw
    have hs := ok.q.1
    refine ⟨_, rfl, _, rfl, _, rfl, _, _, rfl, rfl, .inr ⟨by omega, by omega⟩, _, rfl, _, _, rfl, rfl, a, xs, _, rv, rfl, rfl, SqL.of ha, ?_, ?_⟩
    · have e : (c.q * (m : Int) + c.t.m) = ((m * qn + an : Nat) : Int) := by
        rw [eq, ea, Int.mul_comm]
        rfl
      rw [e]
      exact atI_nat hrv1
    refine ⟨_, rfl, rfl, _, rfl, ?_⟩
    unfold stepU at q
    rw [er, List.getElem?_eq_getElem hlx] at q
    cases eR : R[m * qn + an] with
    | none =>
      rw [eR] at hrv2 q
      have hrv2 : rv = .non := hrv2
      subst hrv2
      rw [decide_eq_true rfl]
      exact iteT (q _ _ (.refl _) rfl)
    | some z =>
      obtain ⟨bb, d, t⟩ := z
      rw [eR] at hrv2 q
      obtain ⟨_, hd, _⟩ := u.ok (m * qn + an) bb d t (by rw [List.getElem?_eq_getElem hlx, eR])
      have q : ∀ H' u, Same H H' → UCA H' u ⟨t, mvT d ⟨c.t.l, bb, c.t.r⟩⟩ → Q u H' := q
      obtain ⟨ar, rfl, har⟩ := hrv2
      rw [decide_eq_false (by intro z; cases z)]
      refine iteF ?_
      have S := SqT.of (K := K) har
      refine ⟨_, rfl, ar, _, _, _, rfl, rfl, S, atI_nat (j := 1) rfl, rfl, _, rfl, ite2 (fun z => ?_) (fun z => ?_)⟩
      · have ed : d = 1 := V.int.inj (of_decide_eq_true z)
        subst ed
        rw [mvT_1] at q
        refine ⟨_, rfl, ar, _, _, _, rfl, rfl, S, atI_nat (j := 2) rfl, ?_⟩
        refine ⟨_, rfl, ar, _, _, _, rfl, rfl, S, atI_nat (j := 0) rfl, (by show 1 ≤ sizeLine; decide), fun p hp => ⟨_, rfl, ?_⟩⟩
        have s1 := nw (o := .tup [.int bb]) hp
        refine rd_cat (ns := [bb]) ⟨p, rfl, upd_same⟩ (hx.ts (Same.ts s1)) (by simp; omega) fun H2 u2 s2 h2 => ?_
        refine ⟨u2, _, rfl, h2, by simp; omega, fun H3 u3 s3 h3 => ?_⟩
        refine ⟨_, rfl, (by show 1 ≤ sizeLine; decide), fun p2 hp2 => ?_⟩
        have s4 := nw (o := .tup [.int 0]) hp2
        have s04 := ((s1.trans s2).trans s3).trans s4
        refine rd_cat (hy.ts (Same.ts s04)) (ms := [0]) ⟨p2, rfl, upd_same⟩ (by simp; omega) fun H5 u5 s5 h5 => ?_
        refine tc (rd_head h5 ?_)
        refine ⟨_, rfl, rd_sl1 (rd_tail (hy.ts (Same.ts (s04.trans s5))) fun H6 u6 s6 h6 => ?_)⟩
        refine ⟨(by show 4 ≤ sizeLine; decide), fun p7 hp7 => ?_⟩
        have s7 := nw (o := .tup [.int t, u3, .int (c.t.r.headD 0), u6]) hp7
        exact q _ _ (((s04.trans s5).trans s6).trans s7) ⟨p7, _, _, rfl, upd_same, h3.ts (Same.ts (((s4.trans s5).trans s6).trans s7)), h6.ts (Same.ts s7)⟩
      · have ed : d = -1 := by
          rcases hd with e | e
          · exact absurd (decide_eq_true (by rw [e])) z
          · exact e
        subst ed
        rw [mvT_m] at q
        refine ⟨_, rfl, ar, _, _, _, rfl, rfl, S, atI_nat (j := 2) rfl, ?_⟩
        refine ⟨_, rfl, rd_sl1 (rd_tail hx fun H1 u1 s1 h1 => ?_)⟩
        refine ⟨_, rfl, (by show 1 ≤ sizeLine; decide), fun p2 hp2 => ?_⟩
        have s2 := nw (o := .tup [.int 0]) hp2
        refine rd_cat (hx.ts (Same.ts (s1.trans s2))) (ms := [0]) ⟨p2, rfl, upd_same⟩ (by simp; omega) fun H3 u3 s3 h3 => ?_
        refine tc (rd_head h3 ?_)
        have s03 := (s1.trans s2).trans s3
        refine ⟨_, rfl, ar, _, _, _, rfl, rfl, SqT.of (s03 _ _ har), atI_nat (j := 0) rfl, (by show 1 ≤ sizeLine; decide), fun p4 hp4 => ⟨_, rfl, ?_⟩⟩
        have s4 := nw (o := .tup [.int bb]) hp4
        have s04 := s03.trans s4
        refine rd_cat (ns := [bb]) ⟨p4, rfl, upd_same⟩ (hy.ts (Same.ts s04)) (by simp; omega) fun H5 u5 s5 h5 => ?_
        refine ⟨u5, _, rfl, h5, by simp; omega, fun H6 u6 s6 h6 => ?_⟩
        refine ⟨(by show 4 ≤ sizeLine; decide), fun p7 hp7 => ?_⟩
        have s7 := nw (o := .tup [.int t, u1, .int (c.t.l.headD 0), u6]) hp7
        exact q _ _ (((s04.trans s5).trans s6).trans s7) ⟨p7, _, _, rfl, upd_same, h1.ts (Same.ts (((((s2.trans s3).trans s4).trans s5).trans s6).trans s7)), h6.ts (Same.ts s7)⟩
end
end Bs

/-! the law's own _law_machine, _law_configuration, _law_draws -/
namespace Bs
open PySem L2
theorem int_at {ns : List Int} {k : Nat} {z : Int} (h : ns[k]? = some z) : (ns.map V.int)[k]? = some (.int z) := by
  rw [List.getElem?_map, h]
  rfl
theorem two_ix {α : Type} (x : Int) (a b : α) : atI [a, b] (x % 2) = some (if x % 2 = 0 then a else b) := by
  have h : x % 2 = 0 ∨ x % 2 = 1 := by omega
  rcases h with h | h
  · rw [h, if_pos rfl]
    rfl
  · rw [h, if_neg (by decide)]
    rfl
/-- a list of ints within bounds -/
theorem ints_of {m : Nat} : ∀ {acc : List V}, (∀ (j : Nat) (v : V), acc[j]? = some v → ∃ z, v = .int z ∧ InM m z) → ∃ ns : List Int, acc = ns.map V.int ∧ ns.length = acc.length ∧ ∀ x ∈ ns, InM m x
  | [], _ => ⟨[], rfl, rfl, fun _ h => by cases h⟩
  | v :: acc, h => by
    obtain ⟨z, e, hz⟩ := h 0 v rfl
    obtain ⟨ns, e2, l, hn⟩ := ints_of (acc := acc) fun j v hj => h (j + 1) v hj
    refine ⟨z :: ns, by rw [e, e2]; rfl, by simp [l], fun x hx => ?_⟩
    rcases List.mem_cons.mp hx with hx | hx
    · rw [hx]; exact hz
    · exact hn x hx
section
variable {P : Program} {w : World} {K : PySem.W.Frag} {mg : Str → Option Value} {base : Heap} {CT CS CH : Addr}
abbrev sLMach : Stmt := top 31
def spLMach : Sp := fun vs H Q _ => ∃ (a : Addr) (ns : List Int) (m s : Nat), vs = [.ref a, .int (m : Nat), .int (s : Nat)] ∧ H a = some (.lst (ns.map V.int)) ∧ m * s ≤ ns.length ∧ 2 ≤ m ∧ m ≤ 8 ∧ 1 ≤ s ∧ s ≤ 40 ∧
  ∀ H' l xs R, Same H H' → H' l = some (.lst xs) → Al (URA H') xs R → UOk m s R → Q (.ref l) H'
theorem scLMach : FnScope ["_law_draws_here", "_law_marks", "_law_states", "_law_rows", "_law_k", "_law_draw", "_law_row"] ["_law_draws_here", "_law_marks", "_law_states"] (defScope sLMach) := ⟨rfl, rfl, rfl, by decide +kernel, rfl, by decide +kernel, by decide +kernel⟩
/-- the rows made so far -/
def RsOk (m s : Nat) (R : List URow) : Prop := ∀ o ∈ R, ∀ b d t, o = some (b, d, t) → InM m b ∧ (d = 1 ∨ d = -1) ∧ InM s t
theorem ok_lMach (T : Txt K mg CT CS CH) (D : DefF K mg "_law_machine" sLMach ["_law_draws_here", "_law_marks", "_law_states"]) : OkF P w K mg base 1 "_law_machine" ["_law_draws_here", "_law_marks", "_law_states"] spLMach := by
  obtain ⟨f, fd, g, b, F⟩ := D
  refine ⟨f, fd, g, F.kp, b, F.ok scLMach (fun vs H Q E h => ?_) (fun cdv A outer s0 H vs Q E hr h => ?_)⟩
  · obtain ⟨a, ns, m, s, rfl, _⟩ := h
    rfl
  · obtain ⟨a, ns, m, s, rfl, ha, hl, m2, m8, s1, s40, q⟩ := h
    refine ⟨_, pss_cons (ps_set (i := 3) scLMach.nd rfl (Or.inl rfl) (pe_lst pa_nil))
      (pss_cons (ps_for PassesOwn.never rfl (pi_range1 rfl T.range (pa_cons (pe_op op_mul (pv 1) (pv 2)) pa_nil)) (pg_name (i := 4) scLMach.nd rfl (Or.inl rfl))
        (pss_cons (ps_set (i := 5) scLMach.nd rfl (Or.inl rfl) (pe_ix ix_list (pv 0) (pv 4) (fun _ _ => rfl)))
        (pss_cons (ps_set (i := 6) scLMach.nd rfl (Or.inl rfl) (pe_tup (pa_cons (pe_op op_mod (pe_callTy call_int1 (by rfl) T.int bInt (pa_cons (pv 5) pa_nil)) (pv 1))
          (pa_cons (pe_ix ix_list (pe_lst (pa_cons (pe_un un_neg pe_int) (pa_cons pe_int pa_nil))) (pe_op op_mod (pe_callTy call_int1 (by rfl) T.int bInt (pa_cons (pe_op op_fdiv (pv 5) pe_int) pa_nil)) pe_int) (fun _ _ => rfl))
          (pa_cons (pe_op op_mod (pe_callTy call_int1 (by rfl) T.int bInt (pa_cons (pe_op op_fdiv (pv 5) pe_int) pa_nil)) (pv 2)) pa_nil)))))
        (pss_one (ps_expr (pe_bm PySem.F.plainAttrs_list PySem.F.slot_list_append PySem.F.type_list_append mt_append (pv 3) (pa_cons (pe_ix ix_list (pe_lst (pa_cons (pv 6) (pa_cons pe_non pa_nil)))
          (pe_callTy call_int1 (by rfl) T.int bInt (pa_cons (pe_cmpR op_eq (pe_op op_mod (pe_callTy call_int1 (by rfl) T.int bInt (pa_cons (pe_op op_fdiv (pv 5) pe_int) pa_nil)) pe_int) pe_int (nomark _)) pa_nil)) (fun _ _ => rfl)) pa_nil)))))))
      (pss_one (ps_ret (pv 3)))), ?_⟩
    have hms : m * s ≤ 8 * 40 := Nat.mul_le_mul m8 s40
    refine ⟨Nat.zero_le _, fun l hl0 => ?_⟩
    have s2 : Same H (upd H l (.lst [])) := nw hl0
    refine ⟨_, rfl, _, rfl, _, _, rfl, rfl, .inl ⟨by omega, by omega⟩, ((m * s : Nat) : Int), rfl, by omega, by omega, for_range (lo := 0) (n := ((m * s : Nat) : Int).toNat)
      (fun i σ H' => Same H H' ∧ (∃ xs R, H' l = some (.lst xs) ∧ Al (URA H') xs R ∧ R.length = i ∧ RsOk m s R) ∧ ∃ v4 v5 v6, σ = [some (.ref a), some (.int (m : Nat)), some (.int (s : Nat)), some (.ref l), v4, v5, v6])
      ⟨s2, ⟨[], [], upd_same, .nil, rfl, fun o h => (by cases h)⟩, none, none, none, rfl⟩ ?_ ?_⟩
    · rintro i σ H1 hi ⟨s3, ⟨xs, R, hx, hA, hlr, hok⟩, v4, v5, v6, rfl⟩
      rw [Int.zero_add]
      have hi : i < m * s := by omega
      have hin : i < ns.length := by omega
      have e0 : ns[i]? = some ns[i] := List.getElem?_eq_getElem hin
      refine ⟨_, rfl, _, rfl, a, _, _, _, rfl, rfl, SqL.of (s3 _ _ ha), atI_nat (int_at e0), ?_⟩
      refine ⟨_, rfl, .inl ⟨_, rfl, _, rfl, _, _, rfl, rfl, by omega, ?_⟩⟩
      refine ⟨_, rfl, (by show 2 ≤ sizeLine; decide), fun l1 hl1 => ?_⟩
      have q1 := nw (o := .lst [.int (-1), .int 1]) hl1
      refine ⟨_, rfl, _, _, rfl, rfl, ⟨by decide, by decide⟩, .inl ⟨_, rfl, _, _, rfl, rfl, (by show (0 : Int) < 2; decide), l1, _, _, _, rfl, rfl, SqL.of upd_same, two_ix _ _ _, ?_⟩⟩
      refine ⟨_, rfl, _, _, rfl, rfl, ⟨by decide, by decide⟩, .inl ⟨_, rfl, _, rfl, _, _, rfl, rfl, by omega, (by show 3 ≤ sizeLine; decide), fun t ht => ?_⟩⟩
      generalize ed : (if ns[i] / 4 % 2 = 0 then V.int (-1) else V.int 1) = dv at ht ⊢
      obtain ⟨d, rfl, hd⟩ : ∃ d, dv = V.int d ∧ (d = 1 ∨ d = -1) := by
        rw [← ed]
        by_cases c : ns[i] / 4 % 2 = 0
        · rw [if_pos c]; exact ⟨-1, rfl, .inr rfl⟩
        · rw [if_neg c]; exact ⟨1, rfl, .inl rfl⟩
      have q2 := nw (o := .tup [.int (ns[i] % (m : Int)), .int d, .int (ns[i] / 8 % (s : Int))]) ht
      have q12 := q1.trans q2
      have hx2 := q12 _ _ hx
      refine ⟨_, rfl, .inl ⟨rfl, _, SqL.of hx2⟩, ?_⟩
      refine ⟨_, rfl, (by show 2 ≤ sizeLine; decide), fun l2 hl2 => ?_⟩
      have q3 := nw (o := .lst [.ref t, .non]) hl2
      refine ⟨_, rfl, _, _, rfl, rfl, ⟨by decide, by decide⟩, .inl ⟨_, rfl, _, _, rfl, rfl, (by show (0 : Int) < 4; decide), rfl, .inr ⟨_, rfl, ?_⟩⟩⟩
      have hx3 := q3 _ _ hx2
      have q13 := q12.trans q3
      have fin : ∀ (u : V) (o : URow), URA (upd (upd (upd H1 l1 (.lst [.int (-1), .int 1])) t (.tup [.int (ns[i] % (m : Int)), .int d, .int (ns[i] / 8 % (s : Int))])) l2 (.lst [.ref t, .non])) u o → (∀ b d t, o = some (b, d, t) → InM m b ∧ (d = 1 ∨ d = -1) ∧ InM s t) →
          rAppend (.ref l) [u] (upd (upd (upd H1 l1 (.lst [.int (-1), .int 1])) t (.tup [.int (ns[i] % (m : Int)), .int d, .int (ns[i] / 8 % (s : Int))])) l2 (.lst [.ref t, .non])) fun _ H' => Same H H' ∧ (∃ xs R, H' l = some (.lst xs) ∧ Al (URA H') xs R ∧ R.length = i + 1 ∧ RsOk m s R) ∧ ∃ v4 v5 v6, [some (V.ref a), some (.int (m : Nat)), some (.int (s : Nat)), some (.ref l), some (.int (i : Nat)), some (.int ns[i]), some (.ref t)] = [some (V.ref a), some (.int (m : Nat)), some (.int (s : Nat)), some (.ref l), v4, v5, v6] := by
        intro u o hu ho
        have tL := TS.lst (o := .lst (xs ++ [u])) hx3
        have lx := hA.1
        refine ⟨l, xs, u, rfl, rfl, hx3, by rw [sizeLine_eq]; omega, ow (s3.trans q13) hl0, ⟨_, R ++ [o], upd_same, ?_, by simp [hlr], fun o' ho' => ?_⟩, _, _, _, rfl⟩
        · exact (hA.mono (fun _ _ z => URA.ts ((Same.ts q13).trans tL) z)).snoc (hu.ts tL)
        · rcases List.mem_append.mp ho' with h | h
          · exact hok o' h
          · rw [List.mem_singleton.mp h]
            exact ho
      by_cases c : V.int (ns[i] / 40 % 4) = V.int 0
      · rw [decide_eq_true c]
        exact ⟨l2, _, _, _, rfl, rfl, SqL.of upd_same, atI_nat (j := 1) rfl, fin .non none rfl (fun b d t e => by cases e)⟩
      · rw [decide_eq_false c]
        refine ⟨l2, _, _, _, rfl, rfl, SqL.of upd_same, atI_nat (j := 0) rfl, fin (.ref t) (some (ns[i] % (m : Int), d, ns[i] / 8 % (s : Int))) ⟨t, rfl, q3 _ _ upd_same⟩ (fun b' d' t' e => ?_)⟩
        cases e
        exact ⟨⟨Int.emod_nonneg _ (by omega), Int.emod_lt_of_pos _ (by omega)⟩, hd, Int.emod_nonneg _ (by omega), Int.emod_lt_of_pos _ (by omega)⟩
    · rintro σ H1 ⟨s3, ⟨xs, R, hx, hA, hlr, hok⟩, v4, v5, v6, rfl⟩
      refine ⟨_, rfl, q _ l xs R s3 hx hA ⟨by omega, by omega, fun i b d t h => hok _ (List.mem_of_getElem? h) b d t rfl⟩⟩
end
end Bs

/-! the law's own _law_configuration, _law_draws -/
namespace Bs
open PySem L2
abbrev rInt1 : List V → Hp → VK → Prop := fun xs H Q => (∃ i, xs = [.int i] ∧ Q (.int i) H) ∨ ∃ k, xs = [.bl k] ∧ Q (.int (if k then 1 else 0)) H
abbrev rModP : R2 := rI (fun _ j => 0 < j) fun i j => .int (i % j)
section
variable {P : Program} {w : World} {K : PySem.W.Frag} {mg : Str → Option Value} {base : Heap} {CT CS CH : Addr}
abbrev sLConf : Stmt := top 33
def spLConf : Sp := fun vs H Q _ => ∃ (a : Addr) (ns : List Int) (m s : Nat), vs = [.ref a, .int (m : Nat), .int (s : Nat), .int 3] ∧ H a = some (.lst (ns.map V.int)) ∧ 11 ≤ ns.length ∧ 1 ≤ m ∧ 1 ≤ s ∧
  ∀ H' u c, Same H H' → UCA H' u c → UCok m s c → c.t.wt ≤ 6 → Q u H'
theorem scLConf : FnScope ["_law_draws_here", "_law_marks", "_law_states", "_law_most", "_law_left", "_law_right", "_law_k"] ["_law_draws_here", "_law_marks", "_law_states", "_law_most"] (defScope sLConf) := ⟨rfl, rfl, rfl, by decide +kernel, rfl, by decide +kernel, by decide +kernel⟩
theorem ok_lConf (T : Txt K mg CT CS CH) (D : DefF K mg "_law_configuration" sLConf ["_law_draws_here", "_law_marks", "_law_states", "_law_most"]) (N : OkF P w K mg base 1 "_law_trimmed" ["_law_marks"] spLTrim) :
    OkF P w K mg base 2 "_law_configuration" ["_law_draws_here", "_law_marks", "_law_states", "_law_most"] spLConf := by
  obtain ⟨f, fd, g, b, F⟩ := D
  obtain ⟨fN, fdN, gN, kN, bN, GN⟩ := N
  refine ⟨f, fd, g, F.kp, b, F.ok scLConf (fun vs H Q E h => ?_) (fun cdv A outer s0 H vs Q E hr h => ?_)⟩
  · obtain ⟨a, ns, m, s, rfl, _⟩ := h
    rfl
  · obtain ⟨a, ns, m, s, rfl, ha, hl, m1, s1, q⟩ := h
    refine ⟨_, pss_cons (ps_set (i := 4) scLConf.nd rfl (Or.inl rfl) (pe_callTy call_tuple_of (by rfl) T.tuple bTuple (pa_cons
        (pe_lc (own := [("_law_k", 6)]) (g := gName 6) (tt := tYes) (te := tOp rModP (tCB rInt1 (tCons (tOp (rIxL K) (tVar 0) (tOp (rI0 fun i j => .int (i + j)) (tC (.int 1)) (tVar 6))) tNil)) (tVar 1)) rfl scLConf.nd
          (pi_range1 (by rfl) T.range (pa_cons (pe_op op_mod (pe_callTy call_int1 (by rfl) T.int bInt (pa_cons (pe_ix ix_list (pv 0) pe_int (fun _ _ => rfl)) pa_nil)) (pe_op op_add (pv 3) pe_int)) pa_nil))
          (blkOk_by (N := ["_law_draws_here", "_law_marks", "_law_states", "_law_most", "_law_left", "_law_right", "_law_k"]) (sc := defScope sLConf) (by decide +kernel)) (fun _ _ _ _ _ => pg_name (i := 6) scLConf.nd rfl (Or.inl rfl)) (fun _ _ _ _ _ => pts_nil)
          (fun _ _ _ _ _ => pe_op op_mod (pe_callTy call_int1 (by rfl) T.int bInt (pa_cons (pe_ix ix_list (pv 0) (pe_op op_add pe_int (pv 6)) (fun _ _ => rfl)) pa_nil)) (pv 1))) pa_nil)))
      (pss_cons (ps_set (i := 5) scLConf.nd rfl (Or.inl rfl) (pe_callTy call_tuple_of (by rfl) T.tuple bTuple (pa_cons
        (pe_lc (own := [("_law_k", 6)]) (g := gName 6) (tt := tYes) (te := tOp rModP (tCB rInt1 (tCons (tOp (rIxL K) (tVar 0) (tOp (rI0 fun i j => .int (i + j)) (tC (.int 5)) (tVar 6))) tNil)) (tVar 1)) rfl scLConf.nd
          (pi_range1 (by rfl) T.range (pa_cons (pe_op op_mod (pe_callTy call_int1 (by rfl) T.int bInt (pa_cons (pe_op op_fdiv (pe_ix ix_list (pv 0) pe_int (fun _ _ => rfl)) pe_int) pa_nil)) (pe_op op_add (pv 3) pe_int)) pa_nil))
          (blkOk_by (N := ["_law_draws_here", "_law_marks", "_law_states", "_law_most", "_law_left", "_law_right", "_law_k"]) (sc := defScope sLConf) (by decide +kernel)) (fun _ _ _ _ _ => pg_name (i := 6) scLConf.nd rfl (Or.inl rfl)) (fun _ _ _ _ _ => pts_nil)
          (fun _ _ _ _ _ => pe_op op_mod (pe_callTy call_int1 (by rfl) T.int bInt (pa_cons (pe_ix ix_list (pv 0) (pe_op op_add pe_int (pv 6)) (fun _ _ => rfl)) pa_nil)) (pv 1))) pa_nil)))
      (pss_one (ps_ret (pe_tup (pa_cons (pe_op op_mod (pe_callTy call_int1 (by rfl) T.int bInt (pa_cons (pe_ix ix_list (pv 0) pe_int (fun _ _ => rfl)) pa_nil)) (pv 2)) (pa_cons (pe_call GN hr (by rfl) gN kN bN .nil pass0 (pa_cons (pv 4) pa_nil))
        (pa_cons (pe_op op_mod (pe_callTy call_int1 (by rfl) T.int bInt (pa_cons (pe_ix ix_list (pv 0) pe_int (fun _ _ => rfl)) pa_nil)) (pv 1)) (pa_cons (pe_call GN hr (by rfl) gN kN bN .nil pass0 (pa_cons (pv 5) pa_nil)) pa_nil)))))))), ?_⟩
    have at_ : ∀ k, k < 11 → ∃ z, ns[k]? = some z := fun k hk => ⟨ns[k], List.getElem?_eq_getElem (by omega)⟩
    obtain ⟨z0, e0⟩ := at_ 0 (by decide)
    obtain ⟨z9, e9⟩ := at_ 9 (by decide)
    obtain ⟨z10, e10⟩ := at_ 10 (by decide)
    -- left
    refine ⟨_, rfl, a, _, _, _, rfl, rfl, SqL.of ha, atI_nat (j := 0) (int_at e0), .inl ⟨_, rfl, _, rfl, _, _, rfl, rfl, _, _, rfl, rfl, (by show (0 : Int) < 3 + 1; decide), z0 % (3 + 1), rfl, by omega, by omega, fun L hL => ?_⟩⟩
    refine lc_mapR (walk_range0 (n := (z0 % (3 + 1)).toNat)) (fun _ v _ => ∃ z, v = .int z ∧ InM m z) hL (by rw [sizeLine_eq]; omega) (fun _ _ _ _ _ h => h) (fun _ _ => True.intro) yFn_same ?_ ?_
    · rintro j v H1 H1' NX lt s2 ⟨rfl, rfl⟩ k
      obtain ⟨z, ez⟩ := at_ (1 + j) (by omega)
      refine ⟨rfl, _, rfl, _, rfl, _, _, rfl, rfl, a, _, _, _, rfl, rfl, SqL.of (s2 _ _ ha), at_of (j := 1 + j) (by omega) (int_at ez), .inl ⟨_, rfl, _, rfl, _, _, rfl, rfl, by omega, k _ _ (.refl _) ⟨_, rfl, Int.emod_nonneg _ (by omega), Int.emod_lt_of_pos _ (by omega)⟩⟩⟩
    intro H1 acc1 s2 eD1 la1 r1
    obtain ⟨l1, rfl, ll1, lm1⟩ := ints_of r1
    refine ⟨L, _, rfl, .inl ⟨SqL.of eD1, fun t ht => ?_⟩⟩
    have s3 := nw (o := .tup (l1.map V.int)) ht
    have s13 := s2.trans s3
    -- right
    refine ⟨_, rfl, a, _, _, _, rfl, rfl, SqL.of (s13 _ _ ha), atI_nat (j := 0) (int_at e0), _, _, rfl, rfl, ⟨by decide, by decide⟩, .inl ⟨_, rfl, _, rfl, _, _, rfl, rfl, _, _, rfl, rfl, (by show (0 : Int) < 3 + 1; decide), z0 / 7 % (3 + 1), rfl, by omega, by omega, fun L2 hL2 => ?_⟩⟩
    refine lc_mapR (walk_range0 (n := (z0 / 7 % (3 + 1)).toNat)) (fun _ v _ => ∃ z, v = .int z ∧ InM m z) hL2 (by rw [sizeLine_eq]; omega) (fun _ _ _ _ _ h => h) (fun _ _ => True.intro) yFn_same ?_ ?_
    · rintro j v H2 H2' NX lt s4 ⟨rfl, rfl⟩ k
      obtain ⟨z, ez⟩ := at_ (5 + j) (by omega)
      refine ⟨rfl, _, rfl, _, rfl, _, _, rfl, rfl, a, _, _, _, rfl, rfl, SqL.of (s4 _ _ (s13 _ _ ha)), at_of (j := 5 + j) (by omega) (int_at ez), .inl ⟨_, rfl, _, rfl, _, _, rfl, rfl, by omega, k _ _ (.refl _) ⟨_, rfl, Int.emod_nonneg _ (by omega), Int.emod_lt_of_pos _ (by omega)⟩⟩⟩
    intro H2 acc2 s4 eD2 la2 r2
    obtain ⟨l2, rfl, ll2, lm2⟩ := ints_of r2
    refine ⟨L2, _, rfl, .inl ⟨SqL.of eD2, fun t2 ht2 => ?_⟩⟩
    have s5 := nw (o := .tup (l2.map V.int)) ht2
    have s35 := s4.trans s5
    have s15 := s13.trans s35
    -- the tuple
    refine ⟨_, rfl, a, _, _, _, rfl, rfl, SqL.of (s15 _ _ ha), atI_nat (j := 9) (int_at e9), .inl ⟨_, rfl, _, rfl, _, _, rfl, rfl, by omega, ?_⟩⟩
    refine ⟨_, rfl, _, l1, rfl, ⟨t, rfl, s35 _ _ upd_same⟩, by omega, fun H3 u3 s6 h3 => ?_⟩
    refine ⟨_, rfl, a, _, _, _, rfl, rfl, SqL.of (s6 _ _ (s15 _ _ ha)), atI_nat (j := 10) (int_at e10), .inl ⟨_, rfl, _, rfl, _, _, rfl, rfl, by omega, ?_⟩⟩
    refine ⟨_, rfl, _, l2, rfl, ⟨t2, rfl, s6 _ _ upd_same⟩, by omega, fun H4 u4 s7 h4 => ?_⟩
    refine ⟨(by show 4 ≤ sizeLine; decide), fun p hp => ?_⟩
    have s8 := nw (o := .tup [.int (z9 % (s : Int)), u3, .int (z10 % (m : Int)), u4]) hp
    refine q _ _ ⟨z9 % (s : Int), ⟨trim l1, z10 % (m : Int), trim l2⟩⟩ (((s15.trans s6).trans s7).trans s8) ⟨p, u3, u4, rfl, upd_same, h3.ts (Same.ts (s7.trans s8)), h4.ts (Same.ts s8)⟩ ⟨⟨Int.emod_nonneg _ (by omega), Int.emod_lt_of_pos _ (by omega)⟩, ⟨⟨trim_idem _, trim_idem _⟩, fun x hx => lm1 x (trim_mem hx), ⟨Int.emod_nonneg _ (by omega), Int.emod_lt_of_pos _ (by omega)⟩, fun x hx => lm2 x (trim_mem hx)⟩⟩ ?_
    have h1 := trim_len l1
    have h2 := trim_len l2
    show (trim l1).length + (trim l2).length ≤ 6
    omega
abbrev sLDraws : Stmt := top 30
def spLDraws (K : PySem.W.Frag) : Sp := fun vs H Q _ => ∃ (a : Addr) (ns : List Int), vs = [.ref a, .int 70] ∧ SqL K H a (ns.map V.int) ∧ ns.length ≤ 63 ∧ ∀ H' l (ds : List Int), Same H H' → H' l = some (.lst (ds.map V.int)) → ds.length = 70 → Q (.ref l) H'
theorem scLDraws : FnScope ["_law_script", "_law_many", "_law_draws_here", "_law_seed", "_law_cell", "_law_number", "_law_k"] ["_law_script", "_law_many"] (defScope sLDraws) := ⟨rfl, rfl, rfl, by decide +kernel, rfl, by decide +kernel, by decide +kernel⟩
theorem cut_ints (ns : List Int) (k : Nat) : cutV (ns.map V.int) none (some (k : Int)) = (ns.take k).map V.int := by
  unfold cutV
  rw [HT.sIx_none, HT.sIx_nat, List.length_map, List.drop_zero, Nat.sub_zero, ← List.map_take]
  congr 1
  by_cases h : k ≤ ns.length
  · rw [Nat.min_eq_left h]
  · rw [Nat.min_eq_right (by omega), List.take_length, List.take_of_length_le (by omega)]
theorem ok_lDraws (T : Txt K mg CT CS CH) (D : DefF K mg "_law_draws" sLDraws ["_law_script", "_law_many"]) : OkF P w K mg base 1 "_law_draws" ["_law_script", "_law_many"] (spLDraws K) := by
  obtain ⟨f, fd, g, b, F⟩ := D
  refine ⟨f, fd, g, F.kp, b, F.ok scLDraws (fun vs H Q E h => ?_) (fun cdv A outer s0 H vs Q E hr h => ?_)⟩
  · obtain ⟨a, ns, rfl, _⟩ := h
    rfl
  · obtain ⟨a, ns, rfl, ha, hl, q⟩ := h
    refine ⟨_, pss_cons (ps_set (i := 2) scLDraws.nd rfl (Or.inl rfl) (pe_lst pa_nil)) (pss_cons (ps_set (i := 3) scLDraws.nd rfl (Or.inl rfl) pe_int)
      (pss_cons (ps_for PassesOwn.never rfl (pi_list (pe_slice sl_list (pv 0) po_none (po_some pe_int))) (pg_name (i := 4) scLDraws.nd rfl (Or.inl rfl))
        (pss_cons (ps_set (i := 5) scLDraws.nd rfl (Or.inl rfl) (pe_callB call_abs (by rfl) T.abs bAbs (pa_cons (pv 4) pa_nil)))
        (pss_cons (ps_set (i := 3) scLDraws.nd rfl (Or.inl rfl) (pe_op op_mod (pe_callTy call_int1 (by rfl) T.int bInt (pa_cons (pe_op op_add (pe_op op_add (pe_op op_mul (pv 3) pe_int) (pv 5)) pe_int) pa_nil)) pe_int))
        (pss_one (ps_if (pt_cmpR op_ge (pv 5) (pe_op op_pow pe_int pe_int) (nomark _))
          (pss_one (ps_for PassesOwn.never rfl (pi_range1 rfl T.range (pa_cons pe_int pa_nil)) (pg_name (i := 6) scLDraws.nd rfl (Or.inl rfl))
            (pss_one (ps_if (pt_cmpR op_gt (pv 5) pe_int (nomark _))
              (pss_cons (ps_expr (pe_bm PySem.F.plainAttrs_list PySem.F.slot_list_append PySem.F.type_list_append mt_append (pv 2) (pa_cons (pe_op op_mod (pe_callTy call_int1 (by rfl) T.int bInt (pa_cons (pv 5) pa_nil)) pe_int) pa_nil)))
              (pss_one (ps_set (i := 5) scLDraws.nd rfl (Or.inl rfl) (pe_op op_fdiv (pv 5) pe_int)))) pss_nil))))
          (pss_one (ps_expr (pe_bm PySem.F.plainAttrs_list PySem.F.slot_list_append PySem.F.type_list_append mt_append (pv 2) (pa_cons (pe_op op_mod (pe_op op_fdiv (pe_callTy call_int1 (by rfl) T.int bInt (pa_cons (pe_op op_add (pe_op op_mul (pv 3) pe_int) pe_int) pa_nil)) pe_int) pe_int) pa_nil)))))))))
      (pss_cons (ps_for PassesOwn.never rfl (pi_range1 rfl T.range (pa_cons (pv 1) pa_nil)) (pg_name (i := 6) scLDraws.nd rfl (Or.inl rfl))
        (pss_one (ps_if (pt_cmpR op_lt (pe_callB call_len_seq (by rfl) T.len PySem.boot_len (pa_cons (pv 2) pa_nil)) (pv 1) (nomark _))
          (pss_cons (ps_set (i := 3) scLDraws.nd rfl (Or.inl rfl) (pe_op op_mod (pe_callTy call_int1 (by rfl) T.int bInt (pa_cons (pe_op op_add (pe_op op_add (pe_op op_mul (pv 3) pe_int) (pv 6)) pe_int) pa_nil)) pe_int))
          (pss_one (ps_expr (pe_bm PySem.F.plainAttrs_list PySem.F.slot_list_append PySem.F.type_list_append mt_append (pv 2) (pa_cons (pe_op op_mod (pe_op op_fdiv (pe_callTy call_int1 (by rfl) T.int bInt (pa_cons (pv 3) pa_nil)) pe_int) pe_int) pa_nil))))) pss_nil)))
      (pss_one (ps_ret (pe_slice sl_list (pv 2) po_none (po_some (pv 1)))))))), ?_⟩
    refine ⟨Nat.zero_le _, fun l hl0 => ?_⟩
    have s1 : Same H (upd H l (.lst [])) := nw hl0
    refine ⟨_, rfl, 63, rfl, a, _, rfl, s1.seq ha, fun c hc => ?_⟩
    have s2 := nw (o := .lst (cutV (ns.map V.int) none (some 63))) hc
    have ec : cutV (ns.map V.int) none (some 63) = (ns.take 63).map V.int := cut_ints ns 63
    rw [ec] at s2 ⊢
    have ncl : l ≠ c := ne_of_none (show (upd H l (.lst [])) l = some (.lst []) from upd_same) hc
    have c0 : H c = none := s1.free hc
    refine ⟨c, rfl, ⟨_, SqL.of upd_same⟩, for_list (K := K) (a := c) (xs := (ns.take 63).map V.int)
      (fun i σ H' => Same H H' ∧ H' c = some (.lst ((ns.take 63).map V.int)) ∧ (∃ ds : List Int, H' l = some (.lst (ds.map V.int)) ∧ ds.length ≤ 60 * i) ∧ ∃ (sd : Int) (v4 v5 v6 : Option V), 0 ≤ sd ∧ sd < 2147483647 ∧ σ = [some (.ref a), some (.int 70), some (.ref l), some (.int sd), v4, v5, v6])
      ⟨s1.trans s2, upd_same, ⟨[], s2 _ _ upd_same, Nat.le_refl _⟩, 7, none, none, none, by decide, by decide, rfl⟩ (fun i σ H' _ h => SqL.of h.2.1) ?_ ?_⟩
    · rintro i x σ H1 hx ⟨s3, hc1, ⟨ds, hd1, hd2⟩, sd, v4, v5, v6, d0, d1, rfl⟩
      have li : i < 63 := by
        have := (List.getElem?_eq_some_iff.mp hx).1
        rw [List.length_map, List.length_take] at this
        omega
      obtain ⟨z, rfl⟩ : ∃ z, x = V.int z := by
        rw [List.getElem?_map] at hx
        cases e : (ns.take 63)[i]? with
        | none => rw [e] at hx; cases hx
        | some z => rw [e] at hx; exact ⟨z, (Option.some.inj hx).symm⟩
      refine ⟨_, rfl, z, rfl, ?_⟩
      refine ⟨_, rfl, _, _, rfl, rfl, .inl ⟨by omega, by omega⟩, _, rfl, _, _, rfl, rfl, _, _, rfl, rfl, .inl ⟨_, rfl, _, _, rfl, rfl, (by show (0 : Int) < 2147483647; decide), ?_⟩⟩
      have r0 : 0 ≤ (sd * 48271 + (if z < 0 then -z else z) + 11) % 2147483647 := Int.emod_nonneg _ (by decide)
      have r1 : (sd * 48271 + (if z < 0 then -z else z) + 11) % 2147483647 < 2147483647 := Int.emod_lt_of_pos _ (by decide)
      generalize (if z < 0 then -z else z) = nz at r0 r1 ⊢
      refine ⟨_, rfl, _, _, rfl, rfl, ⟨by decide, by decide, by decide⟩, _, _, rfl, rfl, _, rfl, ite2 (fun _ => ?_) (fun _ => ?_)⟩
      · refine ⟨60, rfl, by decide, by decide, for_range (lo := 0) (n := (60 : Int).toNat)
          (fun j σ H' => Same H H' ∧ H' c = some (.lst ((ns.take 63).map V.int)) ∧ (∃ ds : List Int, H' l = some (.lst (ds.map V.int)) ∧ ds.length ≤ 60 * i + j) ∧ ∃ (n : Int) (v6 : Option V), σ = [some (.ref a), some (.int 70), some (.ref l), some (.int ((sd * 48271 + nz + 11) % 2147483647)), some (.int z), some (.int n), v6])
          ⟨s3, hc1, ⟨ds, hd1, hd2⟩, nz, _, rfl⟩ ?_ ?_⟩
        · rintro j σ H2 hj ⟨s4, hc2, ⟨es, he1, he2⟩, n, v6, rfl⟩
          have hj : j < 60 := hj
          refine ⟨_, rfl, _, _, rfl, rfl, _, rfl, ite2 (fun _ => ?_) (fun _ => ?_)⟩
          · refine ⟨_, rfl, .inl ⟨rfl, _, SqL.of he1⟩, _, rfl, .inl ⟨_, rfl, _, _, rfl, rfl, (by show (0 : Int) < 1009; decide), l, _, _, rfl, rfl, he1, ?_, ?_⟩⟩
            · rw [List.length_map, sizeLine_eq]
              omega
            refine ⟨_, rfl, _, _, rfl, rfl, ⟨by decide, by decide⟩, ?_⟩
            refine ⟨ow s4 hl0, by rw [upd_ne ncl.symm]; exact hc2, ⟨es ++ [n % 1009], by rw [upd_same, List.map_append]; rfl, by rw [List.length_append, List.length_singleton]; omega⟩, _, _, rfl⟩
          · exact ⟨s4, hc2, ⟨es, he1, by omega⟩, n, _, rfl⟩
        · rintro σ H2 ⟨s4, hc2, ⟨es, he1, he2⟩, n, v6, rfl⟩
          have h60 : (60 : Int).toNat = 60 := rfl
          rw [h60] at he2
          exact ⟨s4, hc2, ⟨es, he1, by omega⟩, _, _, _, _, r0, r1, rfl⟩
      · refine ⟨_, rfl, .inl ⟨rfl, _, SqL.of hd1⟩, _, rfl, _, _, rfl, rfl, .inl ⟨by omega, by omega⟩, _, _, rfl, rfl, .inl ⟨_, rfl, _, _, rfl, rfl, ⟨by decide, by decide⟩, _, _, rfl, rfl, (by show (0 : Int) < 65521; decide), l, _, _, rfl, rfl, hd1, ?_, ?_⟩⟩
        · rw [List.length_map, sizeLine_eq]
          omega
        · refine ⟨ow s3 hl0, by rw [upd_ne ncl.symm]; exact hc1, ⟨ds ++ [((sd * 48271 + nz + 11) % 2147483647 * 16807 + 5) / 3 % 65521], by rw [upd_same, List.map_append]; rfl, by rw [List.length_append, List.length_singleton]; omega⟩, _, _, _, _, r0, r1, rfl⟩
    · rintro σ H1 ⟨s3, hc1, ⟨ds, hd1, hd2⟩, sd, v4, v5, v6, d0, d1, rfl⟩
      have hl63 : ((ns.take 63).map V.int).length ≤ 63 := by
        rw [List.length_map, List.length_take]
        omega
      refine ⟨_, rfl, 70, rfl, by decide, by decide, for_range (lo := 0) (n := (70 : Int).toNat)
        (fun j σ H' => Same H H' ∧ (∃ ds : List Int, H' l = some (.lst (ds.map V.int)) ∧ ds.length ≤ 4000 + j ∧ (j ≤ ds.length ∨ 70 ≤ ds.length)) ∧ ∃ (sd : Int) (v6 : Option V), 0 ≤ sd ∧ sd < 2147483647 ∧ σ = [some (.ref a), some (.int 70), some (.ref l), some (.int sd), v4, v5, v6])
        ⟨s3, ⟨ds, hd1, by omega, .inl (Nat.zero_le _)⟩, sd, _, d0, d1, rfl⟩ ?_ ?_⟩
      · rintro j σ H2 hj ⟨s4, ⟨es, he1, he2, he3⟩, sd, v6, d0, d1, rfl⟩
        have hj : j < 70 := hj
        rw [Int.zero_add]
        refine ⟨_, rfl, _, _, rfl, .inl (SqL.of he1), _, rfl, _, _, rfl, rfl, _, rfl, ite2 (fun hlt => ?_) (fun hge => ?_)⟩
        · have hlt := of_decide_eq_true hlt
          rw [List.length_map] at hlt
          refine ⟨_, rfl, _, _, rfl, rfl, .inl ⟨by omega, by omega⟩, _, rfl, _, _, rfl, rfl, _, _, rfl, rfl, .inl ⟨_, rfl, _, _, rfl, rfl, (by show (0 : Int) < 2147483647; decide), ?_⟩⟩
          have r0 : 0 ≤ (sd * 69621 + (j : Nat) + 1) % 2147483647 := Int.emod_nonneg _ (by decide)
          have r1 : (sd * 69621 + (j : Nat) + 1) % 2147483647 < 2147483647 := Int.emod_lt_of_pos _ (by decide)
          refine ⟨_, rfl, .inl ⟨rfl, _, SqL.of he1⟩, _, rfl, .inl ⟨_, rfl, _, _, rfl, rfl, ⟨by decide, by decide⟩, _, _, rfl, rfl, (by show (0 : Int) < 65521; decide), l, _, _, rfl, rfl, he1, ?_, ?_⟩⟩
          · rw [List.length_map, sizeLine_eq]
            omega
          · refine ⟨ow s4 hl0, ⟨es ++ [(sd * 69621 + (j : Nat) + 1) % 2147483647 / 7 % 65521], by rw [upd_same, List.map_append]; rfl, by rw [List.length_append, List.length_singleton]; omega, by rw [List.length_append, List.length_singleton]; omega⟩, _, _, r0, r1, rfl⟩
        · have hge : ¬ (((es.map V.int).length : Nat) : Int) < 70 := fun z => hge (decide_eq_true z)
          rw [List.length_map] at hge
          exact ⟨s4, ⟨es, he1, by omega, .inr (by omega)⟩, sd, _, d0, d1, rfl⟩
      · rintro σ H2 ⟨s4, ⟨es, he1, he2, he3⟩, sd, v6, d0, d1, rfl⟩
        have h70 : (70 : Int).toNat = 70 := rfl
        rw [h70] at he3
        refine ⟨_, rfl, _, rfl, 70, rfl, l, _, rfl, SqL.of he1, fun p hp => ?_⟩
        have ec2 : cutV (es.map V.int) none (some 70) = (es.take 70).map V.int := cut_ints es 70
        rw [ec2]
        refine q _ p (es.take 70) (s4.trans (nw hp)) upd_same ?_
        rw [List.length_take]
        omega
end
end Bs

/-! the law: its inner loop -/
namespace Bs
open PySem L2
def bodyOf : Stmt → List Stmt
  | .For _ _ b _ _ => b
  | _ => []
def elseOf : Stmt → List Stmt
  | .If _ _ b _ => b
  | _ => []
abbrev pass0s : Stmt := .Pass ⟨0, 0, 0, 0⟩
abbrev sLaw : Stmt := top 35
abbrev NL : List Str := ["_law_script", "_law_draws_here", "_law_marks", "_law_states", "_law_rows", "_law_stair", "_law_lower", "_law_here", "_law_k", "_law_past", "_law_first", "_law_low", "_law_taken", "_law_after", "_law_j", "_law_before", "_law_entered"]
theorem scLaw : FnScope NL ["_law_script"] (defScope sLaw) := ⟨rfl, rfl, rfl, by decide +kernel, rfl, by decide +kernel, by decide +kernel⟩
abbrev forK : Stmt := (defBody sLaw).getD 9 pass0s
abbrev ifA : Stmt := (bodyOf forK).getD 1 pass0s
abbrev forJ : Stmt := (elseOf ifA).getD 1 pass0s
abbrev LX (P : Program) (w : World) (K : PySem.W.Frag) (mg : Str → Option Value) (base : Heap) (f : Addr) (cdv : Value) (A : Around) (outer : List Env) (s0 : Shared) (H0 : Hp) (E : XK) : Cx :=
  (cxOf CX0 P w K mg base NL "law" (defScope sLaw) f cdv A outer s0 H0 E).nox
/-- the slots of the law behind its setting up -/
abbrev sg (a ad : Addr) (m s : Nat) (ar h lw : Addr) (here k past first low taken after j before entered : Option V) : L2.St :=
  [some (.ref a), some (.ref ad), some (.int (m : Nat)), some (.int (s : Nat)), some (.ref ar), some (.ref h), some (.ref lw), here, k, past, first, low, taken, after, j, before, entered]
/-- the defs that the law calls -/
structure Cal (P : Program) (w : World) (K : PySem.W.Frag) (mg : Str → Option Value) (base : Heap) (CT CS CH : Addr) : Prop where
  draws : OkF P w K mg base 1 "_law_draws" ["_law_script", "_law_many"] (spLDraws K)
  mach : OkF P w K mg base 1 "_law_machine" ["_law_draws_here", "_law_marks", "_law_states"] spLMach
  tape : OkI P w K mg base 3 CT ["self", "marks", "states", "rows"] (spTInit CT)
  his : OkI P w K mg base 6 CH ["self", "machine"] (spHInit CT CS CH)
  conf : OkF P w K mg base 2 "_law_configuration" ["_law_draws_here", "_law_marks", "_law_states", "_law_most"] spLConf
  lstep : OkF P w K mg base 2 "_law_step" ["_law_rows", "_law_marks", "_law_configuration_here"] spLStep
  down : OkM P w K mg base 1 CH "down" ["self", "configuration", "past"] (spDown CT CS CH)
  up : OkM P w K mg base 4 CH "up" ["self", "configuration"] (spUp CT CS CH)
  step : OkM P w K mg base 4 CS "step" ["self", "configuration"] (spStep CS false)
  stopped : OkM P w K mg base 5 CS "stopped" ["self", "configuration"] (spStopped CS)
  back : OkM P w K mg base 4 CS "back" ["self", "configuration"] (spStep CS true)
  run : OkM P w K mg base 5 CS "run" ["self", "configuration", "steps"] (spSRun CS false)
  runBack : OkM P w K mg base 5 CS "run_back" ["self", "configuration", "steps"] (spSRun CS true)
theorem noS {CT CS CH : Addr} {H : Hp} {h p low : Addr} {m s : Nat} {xs : List V} {R : List URow} (O : HisO CT CS CH H h p low m s xs R) {g : Str} (g1 : ¬ g = "tapes") (g2 : ¬ g = "marks") (g3 : ¬ g = "states") (g4 : ¬ g = "_rows") (g5 : ¬ g = "_back_clash") (g6 : ¬ g = "_by_state") (g7 : ¬ g = "_by_next") :
    ∃ dx fs, H low = some (.ins CS dx fs) ∧ fs.lookup g = none := by
  obtain ⟨dx, fs, d1, d2, h1, _, _, _, h5, _⟩ := O.low.ex
  exact ⟨dx, fs, h1, h5 g g1 g2 g3 g4 g5 g6 g7⟩
theorem noH {CT CS CH : Addr} {H : Hp} {h p low : Addr} {m s : Nat} {xs : List V} {R : List URow} (O : HisO CT CS CH H h p low m s xs R) {g : Str} (g1 : ¬ g = "upper") (g2 : ¬ g = "_pairs") (g3 : ¬ g = "lower") : ∃ dx fs, H h = some (.ins CH dx fs) ∧ fs.lookup g = none := by
  obtain ⟨dx, fs, h1, _, _, h5⟩ := O.ex
  exact ⟨dx, fs, h1, h5 g g1 g2 g3⟩
theorem LCA.not {H : Hp} {v : V} {c : LC} (h : LCA H v c) : ¬ v = V.non := by
  obtain ⟨a, _, _, _, e, _⟩ := h
  intro z
  rw [z] at e
  cases e
section
variable {P : Program} {w : World} {K : PySem.W.Frag} {mg : Str → Option Value} {base : Heap} {CT CS CH : Addr} {f : Addr} {cdv : Value} {A : Around} {outer : List Env} {s0 : Shared} {H0 : Hp} {E : XK}
/-- for _law_j in range(4): four lower steps, each looked at from both ends -/
theorem law_j (T : Txt K mg CT CS CH) (C : Cal P w K mg base CT CS CH) (hr : Room 7 (LX P w K mg base f cdv A outer s0 H0 E).A) : ∃ t, PS (LX P w K mg base f cdv A outer s0 H0 E) forJ t ∧
    ∀ (D : Ends) (H : Hp) (a ad : Addr) (m s : Nat) (ar h lw p : Addr) (xs : List V) (R : List URow) (here k past first taken after j before entered : Option V) (x : V) (cs : Nat → LC),
      HisO CT CS CH H h p lw m s xs R → LCA H x (cs 0) → (cs 0).wt ≤ 100000 → (∀ i, i < 4 → stepR (lowRows m s R) (cs i) = some (cs (i + 1)) ∧ stepR ((lowRows m s R).map bk) (cs (i + 1)) = some (cs i) ∧ (i < 3 → (s : Int) ≤ (cs (i + 1)).q)) →
      (∀ H' x' j' b', Same H H' → LCA H' x' (cs 4) → D.nx (sg a ad m s ar h lw here k past first (some x') taken after j' b' entered) H') →
      t D (sg a ad m s ar h lw here k past first (some x) taken after j before entered) H := by
  obtain ⟨f1, fd1, m1, b1, G1⟩ := C.step
  obtain ⟨f2, fd2, m2, b2, G2⟩ := C.back
  obtain ⟨f3, fd3, m3, b3, G3⟩ := C.up
  have hr4 : Room 4 (LX P w K mg base f cdv A outer s0 H0 E).A := hr.mono (by decide)
  refine ⟨_, ps_for PassesOwn.never rfl (pi_range1 (by rfl) T.range (pa_cons pe_int pa_nil)) (pg_name (i := 14) scLaw.nd rfl (Or.inl rfl))
      (pss_cons (ps_set (i := 15) scLaw.nd rfl (Or.inl rfl) (pv 11))
      (pss_cons (ps_set (i := 11) scLaw.nd rfl (Or.inl rfl) (pe_meth (pv 6) T.cS m1 G1 hr4 b1 .nil pass0 (pa_cons (pv 11) pa_nil)))
      (pss_one (ps_if (PW.pt (L2.pw_or (pt_cmpR op_isN (pv 11) pe_non (nomark _)) (L2.pw_or (pt_cmpR (by exact op_neD hr.units) (pe_meth (pv 6) T.cS m2 G2 hr4 b2 .nil pass0 (pa_cons (pv 11) pa_nil)) (pv 15) (nomark _))
        (pw_or1 (PW.pt (pw_and (pt_cmpR op_lt (pv 14) pe_int (nomark _)) (pw_and1 (pt_cmpR op_notN (pe_meth (pv 5) T.cH m3 G3 hr4 b3 .nil pass0 (pa_cons (pv 11) pa_nil)) pe_non (nomark _)))))))))
        (pss_one (ps_ret pe_bl)) pss_nil)))), ?_⟩
  intro D H a ad m s ar h lw p xs R here k past first taken after j before entered x cs O hx hw hs q
  refine ⟨4, rfl, by decide, by decide, for_range (lo := 0) (n := (4 : Int).toNat) (fun i σ H' => Same H H' ∧ ∃ y j' b', LCA H' y (cs i) ∧ (cs i).wt ≤ 100000 + 2 * i ∧ σ = sg a ad m s ar h lw here k past first (some y) taken after j' b' entered) ⟨.refl _, x, j, before, hx, hw, rfl⟩ ?_ ?_⟩
  · rintro i σ H1 hi ⟨s1, y, j', b', hy, hwi, rfl⟩
    have hi : i < 4 := hi
    rw [Int.zero_add]
    obtain ⟨t1, t2, t3⟩ := hs i hi
    have O1 := O.same s1
    obtain ⟨d1, fs1, k1, k2⟩ := noS O1 (g := "step") (by decide +kernel) (by decide +kernel) (by decide +kernel) (by decide +kernel) (by decide +kernel) (by decide +kernel) (by decide +kernel)
    refine ⟨_, rfl, ?_⟩
    refine ⟨_, rfl, lw, d1, fs1, rfl, k1, k2, _, rfl, lw, lowRows m s R, y, cs i, rfl, O1.low, hy, by omega, fun H2 z s2 hz => ?_⟩
    rw [if_neg Bool.false_ne_true, t1] at hz
    have hz : LCA H2 z (cs (i + 1)) := hz
    have O2 := O1.same s2
    have hw2 := wt_step t1
    -- if _law_low is None or ..
    refine ⟨_, rfl, rfl, _, rfl, ?_⟩
    rw [decide_eq_false hz.not]
    refine iteF ?_
    obtain ⟨d2, fs2, k3, k4⟩ := noS O2 (g := "back") (by decide +kernel) (by decide +kernel) (by decide +kernel) (by decide +kernel) (by decide +kernel) (by decide +kernel) (by decide +kernel)
    refine ⟨_, rfl, lw, d2, fs2, rfl, k3, k4, _, rfl, lw, lowRows m s R, z, cs (i + 1), rfl, O2.low, hz, by omega, fun H3 u s3 hu => ?_⟩
    rw [if_pos rfl, t2] at hu
    have hu : LCA H3 u (cs i) := hu
    refine ⟨_, rfl, ?_⟩
    refine rd_ne hu.dp ((hy.ts (Same.ts (s2.trans s3))).dp) (shp_L _) (by decide) ⟨_, rfl, iteF ?_⟩
    refine ⟨_, rfl, _, _, rfl, rfl, _, rfl, ?_⟩
    have sa := (s1.trans s2).trans s3
    by_cases c3 : i < 3
    · rw [decide_eq_true (show ((i : Nat) : Int) < 3 by omega)]
      refine iteT ?_
      have O3 := O2.same s3
      obtain ⟨d3, fs3, k5, k6⟩ := noH O3 (g := "up") (by decide +kernel) (by decide +kernel) (by decide +kernel)
      refine ⟨_, rfl, h, d3, fs3, rfl, k5, k6, _, rfl, h, p, lw, m, s, xs, R, z, cs (i + 1), rfl, O3, hz.ts (Same.ts s3), .inl ⟨t3 c3, fun H4 s4 => ⟨rfl, _, rfl, ?_⟩⟩⟩
      rw [decide_eq_true rfl]
      exact iteF ⟨sa.trans s4, z, _, _, hz.ts (Same.ts (s3.trans s4)), by omega, rfl⟩
    · rw [decide_eq_false (show ¬ ((i : Nat) : Int) < 3 by omega)]
      exact iteF (iteF ⟨sa, z, _, _, hz.ts (Same.ts s3), by omega, rfl⟩)
  · rintro σ H1 ⟨s1, y, j', b', hy, hwi, rfl⟩
    exact q _ _ _ _ s1 hy
end
end Bs

/-! the law: its outer loop -/
namespace Bs
open PySem L2
def dUp (c : UC) (p : Past) : PyData := .tuple [dU c, dPast p]
theorem shp_Up (c : UC) (p : Past) : shp 3 (dUp c p) := shp_tup fun x hx => by
  simp only [List.mem_cons, List.not_mem_nil, or_false] at hx
  rcases hx with e | e <;> subst e
  · exact shp_U c
  · exact shp_past p
section
variable {K : PySem.W.Frag} {H : Hp} {Q : VK}
theorem UpA.dp {u : V} {c : UC} {p : Past} (h : UpA H u c p) : Dp K H u (dUp c p) := by
  obtain ⟨a, x, y, rfl, h, hx, hy⟩ := h
  exact .tup (SqT.of h) (.cons hx.dp (.cons hy.dp .nil))
theorem rd_past {v : V} {ps : Past} {x : Int × Int} {p1 p2 : Addr} (hv : PastA H v ps) (hl : ps.length ≤ 10000) (h1 : H p1 = some (.tup [.int x.1, .int x.2])) (h2 : H p2 = some (.tup [.ref p1])) (q : ∀ H' u, Same H H' → PastA H' u (ps ++ [x]) → Q u H') :
    rCatA K v (.ref p2) H Q := by
  obtain ⟨a, xs, rfl, ha, hA⟩ := hv
  have px : PA2 H (.ref p1) x := ⟨p1, rfl, h1⟩
  refine ⟨a, p2, xs, [.ref p1], rfl, rfl, SqT.of ha, SqT.of h2, ?_, fun e => ?_, fun _ e => ?_, fun _ _ p hp => ?_⟩
  · rw [hA.1, sizeLine_eq, List.length_singleton]
    omega
  · subst e
    have e2 : ps = [] := List.length_eq_zero_iff.mp hA.1.symm
    subst e2
    exact q _ _ (.refl _) ⟨p2, _, rfl, h2, .cons px .nil⟩
  · cases e
  · have s := nw (o := .tup (xs ++ [.ref p1])) hp
    exact q _ _ s ⟨p, _, rfl, upd_same, (hA.mono (fun _ _ z => PA2.ts (Same.ts s) z)).snoc (px.ts (Same.ts s))⟩
end
theorem Past.len_notes {m : Nat} {c : UC} {ps : Past} : (down m c ps).wt = c.t.wt + ps.length := by
  show c.t.wt + ((notes m ps).length + 0) = _
  rw [notes_len, Nat.add_zero]
section
variable {P : Program} {w : World} {K : PySem.W.Frag} {mg : Str → Option Value} {base : Heap} {CT CS CH : Addr} {f : Addr} {cdv : Value} {A : Around} {outer : List Env} {s0 : Shared} {H0 : Hp} {E : XK}
/-- the machine goes on: four lower steps, and what is asked behind them -/
theorem law_e (T : Txt K mg CT CS CH) (C : Cal P w K mg base CT CS CH) (hr : Room 7 (LX P w K mg base f cdv A outer s0 H0 E).A) : ∃ t, PSs (LX P w K mg base f cdv A outer s0 H0 E) (elseOf ifA) t ∧
    ∀ (D : Ends) (H : Hp) (a ad : Addr) (m s : Nat) (ar h lw p : Addr) (xs : List V) (R : List URow) (k first j before entered : Option V) (xh xp xl xa : V) (c c' : UC) (ps : Past) (n : Nat),
      HisO CT CS CH H h p lw m s xs R → UOk m s R → m ≤ 8 → UCA H xh c → PastA H xp ps → LCA H xl (down m c ps) → UCA H xa c' → stepU m R c = some c' → UCok m s c → PastOk m s ps → c.t.wt ≤ 1000 → ps.length ≤ 1000 →
      (∀ H' xh' xp' xl' j' b', Same H H' → UCA H' xh' c' → PastA H' xp' (ps ++ [(c.q, c.t.m)]) → LCA H' xl' (down m c' (ps ++ [(c.q, c.t.m)])) → D.nx (sg a ad m s ar h lw (some xh') k (some xp') first (some xl') (some (.int (n + 4 : Nat))) (some xa) j' b' entered) H') →
      t D (sg a ad m s ar h lw (some xh) k (some xp) first (some xl) (some (.int (n : Nat))) (some xa) j before entered) H := by
  obtain ⟨tj, dj, rj⟩ := law_j (f := f) (cdv := cdv) (A := A) (outer := outer) (s0 := s0) (H0 := H0) (E := E) T C hr
  obtain ⟨f1, fd1, m1, b1, G1⟩ := C.down
  obtain ⟨f3, fd3, m3, b3, G3⟩ := C.up
  have hr1 : Room 1 (LX P w K mg base f cdv A outer s0 H0 E).A := hr.mono (by decide)
  have hr4 : Room 4 (LX P w K mg base f cdv A outer s0 H0 E).A := hr.mono (by decide)
  refine ⟨_, pss_cons (ps_set (i := 9) scLaw.nd rfl (Or.inl rfl) (pe_op op_catA (pv 9) (pe_tup (pa_cons (pe_tup (pa_cons (pe_ix ix_tup (pv 7) pe_int (fun _ _ => rfl)) (pa_cons (pe_ix ix_tup (pv 7) pe_int (fun _ _ => rfl)) pa_nil))) pa_nil))))
      (pss_cons dj
      (pss_cons (ps_par (i := 7) (j := 12) rfl scLaw.nd rfl rfl (by decide) rfl rfl (pa_cons (pv 13) (pa_cons (pe_op op_add (pv 12) pe_int) pa_nil)) (by rfl))
      (pss_one (ps_if (PW.pt (L2.pw_or (pt_cmpR (by exact op_neD hr.units) (pv 11) (pe_meth (pv 5) T.cH m1 G1 hr1 b1 .nil pass0 (pa_cons (pv 7) (pa_cons (pv 9) pa_nil))) (nomark _))
        (pw_or1 (pt_cmpR (by exact op_neD hr.units) (pe_meth (pv 5) T.cH m3 G3 hr4 b3 .nil pass0 (pa_cons (pv 11) pa_nil)) (pe_tup (pa_cons (pv 7) (pa_cons (pv 9) pa_nil))) (nomark _))))) (pss_one (ps_ret pe_bl)) pss_nil)))), ?_⟩
  intro D H a ad m s ar h lw p xs R k first j before entered xh xp xl xa c c' ps n O u m8 hh hp hl ha hs ok pok hw hpl q
  obtain ⟨c1, c2, c3, F⟩ := four u ok pok hs
  obtain ⟨ah, x1, x2, rfl, hah, _, _⟩ := id hh
  have S := SqT.of (K := K) hah
  -- _law_past = _law_past + ((_law_here[0], _law_here[2]),)
  refine ⟨_, rfl, _, rfl, ah, _, _, _, rfl, rfl, S, atI_nat (j := 0) rfl, _, rfl, ah, _, _, _, rfl, rfl, S, atI_nat (j := 2) rfl, (by show 2 ≤ sizeLine; decide), fun p1 hp1 => ⟨(by show 1 ≤ sizeLine; decide), fun p2 hp2 => ?_⟩⟩
  have s1 := nw (o := .tup [.int c.q, .int c.t.m]) hp1
  have s2 := nw (o := .tup [.ref p1]) hp2
  have s12 := s1.trans s2
  refine rd_past (x := (c.q, c.t.m)) (hp.ts (Same.ts s12)) (by omega) (s2 _ _ upd_same) upd_same fun H3 up s3 hup => ?_
  have s13 := s12.trans s3
  -- the inner loop
  have wl : (down m c ps).wt ≤ 100000 := by rw [Past.len_notes]; omega
  refine rj _ H3 a ad m s ar h lw p xs R _ _ _ _ _ _ _ _ _ xl (fun i => match i with | 0 => down m c ps | 1 => c1 | 2 => c2 | 3 => c3 | _ => down m c' (ps ++ [(c.q, c.t.m)])) (O.same s13) (hl.ts (Same.ts s13)) wl (fun i hi => ?_) fun H4 xl' j' b' s4 hl4 => ?_
  · match i, hi with
    | 0, _ => exact ⟨F.s1, F.b1, fun _ => F.q1⟩
    | 1, _ => exact ⟨F.s2, F.b2, fun _ => F.q2⟩
    | 2, _ => exact ⟨F.s3, F.b3, fun _ => F.q3⟩
    | 3, _ => exact ⟨F.s4, F.b4, fun z => absurd z (by decide)⟩
  have s14 := s13.trans s4
  have hl4 : LCA H4 xl' (down m c' (ps ++ [(c.q, c.t.m)])) := hl4
  have hup4 := hup.ts (Same.ts s4)
  have ha4 := ha.ts (Same.ts s14)
  have O4 := O.same s14
  -- _law_here, _law_taken = _law_after, _law_taken + 4
  refine ⟨_, rfl, _, rfl, _, _, rfl, rfl, _, _, rfl, ?_⟩
  -- if _law_low != _law_stair.down(..) or ..
  obtain ⟨d1, fs1, k1, k2⟩ := noH O4 (g := "down") (by decide +kernel) (by decide +kernel) (by decide +kernel)
  have pl2 : (ps ++ [(c.q, c.t.m)]).length ≤ 1001 := by rw [List.length_append, List.length_singleton]; omega
  have w2 : c'.t.wt ≤ 1001 := by
    unfold stepU at hs
    cases e : rowOf m R c with
    | none => rw [e] at hs; cases hs
    | some z =>
      rw [e] at hs
      have hs : (⟨z.2.2, mvT z.2.1 ⟨c.t.l, z.1, c.t.r⟩⟩ : UC) = c' := Option.some.inj hs
      rw [← hs]
      have h1 := wt_mvT z.2.1 ⟨c.t.l, z.1, c.t.r⟩
      have h2 : (⟨c.t.l, z.1, c.t.r⟩ : Tp).wt = c.t.wt := rfl
      show (mvT z.2.1 ⟨c.t.l, z.1, c.t.r⟩).wt ≤ 1001
      omega
  refine ⟨_, rfl, _, rfl, h, d1, fs1, rfl, k1, k2, _, rfl, _, rfl, h, p, lw, m, s, xs, R, xa, up, c', ps ++ [(c.q, c.t.m)], rfl, O4, m8, ha4, hup4, by omega, fun H5 v5 s5 h5 => ?_⟩
  refine rd_ne ((hl4.ts (Same.ts s5)).dp) h5.dp (shp_L _) (by decide) ⟨_, rfl, iteF ?_⟩
  have O5 := O4.same s5
  obtain ⟨d3, fs3, k5, k6⟩ := noH O5 (g := "up") (by decide +kernel) (by decide +kernel) (by decide +kernel)
  refine ⟨_, rfl, h, d3, fs3, rfl, k5, k6, _, rfl, h, p, lw, m, s, xs, R, xl', _, rfl, O5, hl4.ts (Same.ts s5), .inr ⟨c', ps ++ [(c.q, c.t.m)], rfl, u.m0, m8, F.ok, F.pok, by omega, by omega, fun H6 v6 s6 h6 => ?_⟩⟩
  refine ⟨_, rfl, _, rfl, (by show 2 ≤ sizeLine; decide), fun t ht => ?_⟩
  have s7 := nw (o := .tup [xa, up]) ht
  have s57 := (s5.trans s6).trans s7
  have ha7 := ha4.ts (Same.ts s57)
  have hup7 := hup4.ts (Same.ts s57)
  have hu6 : UpA (upd H6 t (.tup [xa, up])) v6 c' (ps ++ [(c.q, c.t.m)]) := by
    obtain ⟨b, y1, y2, e1, e2, e3, e4⟩ := h6
    exact ⟨b, y1, y2, e1, s7 _ _ e2, e3.ts (Same.ts s7), e4.ts (Same.ts s7)⟩
  refine rd_ne (UpA.dp hu6) (UpA.dp ⟨t, xa, up, rfl, upd_same, ha7, hup7⟩) (shp_Up _ _) (by decide) ⟨_, rfl, iteF ?_⟩
  exact q _ _ _ _ _ _ (s14.trans s57) ha7 hup7 (hl4.ts (Same.ts s57))
/-- for _law_k in range(..) -/
theorem law_k (T : Txt K mg CT CS CH) (C : Cal P w K mg base CT CS CH) (hr : Room 7 (LX P w K mg base f cdv A outer s0 H0 E).A) : ∃ t, PS (LX P w K mg base f cdv A outer s0 H0 E) forK t ∧
    ∀ (D : Ends) (H : Hp) (a ad : Addr) (m s : Nat) (ar h lw p : Addr) (xs ys : List V) (R : List URow) (ds : List Int) (k first after j before entered : Option V) (xh xp xl : V) (c : UC) (ps : Past),
      H ad = some (.lst (ds.map V.int)) → ds.length = 70 → H ar = some (.lst xs) → Al (URA H) xs R → HisO CT CS CH H h p lw m s ys R → UOk m s R → m ≤ 8 → UCA H xh c → PastA H xp ps → LCA H xl (down m c ps) → UCok m s c → PastOk m s ps → c.t.wt ≤ 6 → ps.length ≤ 3 →
      (∀ H' xh' xp' xl' k' after' j' b' n cl, Same H H' → LCA H' xl' cl → iter (lowRows m s R) n (down m c ps) = some cl → iter ((lowRows m s R).map bk) n cl = some (down m c ps) → n ≤ 64 → cl.wt ≤ 1000 →
        D.nx (sg a ad m s ar h lw xh' k' xp' first (some xl') (some (.int (n : Nat))) after' j' b' entered) H') →
      t D (sg a ad m s ar h lw (some xh) k (some xp) first (some xl) (some (.int 0)) after j before entered) H := by
  obtain ⟨te, de, re⟩ := law_e (f := f) (cdv := cdv) (A := A) (outer := outer) (s0 := s0) (H0 := H0) (E := E) T C hr
  obtain ⟨f1, fd1, g1, kk1, b1, G1⟩ := C.lstep
  obtain ⟨f2, fd2, m2, b2, G2⟩ := C.step
  obtain ⟨f3, fd3, m3, b3, G3⟩ := C.stopped
  have hr2 : Room 2 (LX P w K mg base f cdv A outer s0 H0 E).A := hr.mono (by decide)
  have hr4 : Room 4 (LX P w K mg base f cdv A outer s0 H0 E).A := hr.mono (by decide)
  have hr5 : Room 5 (LX P w K mg base f cdv A outer s0 H0 E).A := hr.mono (by decide)
  refine ⟨_, ps_for PassesOwn.never rfl (pi_range1 (by rfl) T.range (pa_cons (pe_op op_mod (pe_callTy call_int1 (by rfl) T.int bInt (pa_cons (pe_ix ix_list (pv 1) pe_int (fun _ _ => rfl)) pa_nil)) pe_int) pa_nil)) (pg_name (i := 8) scLaw.nd rfl (Or.inl rfl))
      (pss_cons (ps_set (i := 13) scLaw.nd rfl (Or.inl rfl) (pe_call G1 hr2 (by rfl) g1 kk1 b1 .nil pass0 (pa_cons (pv 4) (pa_cons (pv 2) (pa_cons (pv 7) pa_nil)))))
      (pss_one (ps_if (pt_cmpR op_isN (pv 13) pe_non (nomark _))
        (pss_one (ps_if (PW.pt (L2.pw_or (pt_cmpR op_notN (pe_meth (pv 6) T.cS m2 G2 hr4 b2 .nil pass0 (pa_cons (pv 11) pa_nil)) pe_non (nomark _)) (pw_or1 (pt_cmpR op_notBl (pe_meth (pv 6) T.cS m3 G3 hr5 b3 .nil pass0 (pa_cons (pv 11) pa_nil)) pe_bl (nomark _))))) (pss_one (ps_ret pe_bl)) pss_nil))
        de))), ?_⟩
  intro D H a ad m s ar h lw p xs ys R ds k first after j before entered xh xp xl c ps hd hdl har hR O u m8 hh hp hl ok pok hw hpl q
  obtain ⟨z, ez⟩ : ∃ z, ds[43]? = some z := ⟨ds[43], List.getElem?_eq_getElem (by omega)⟩
  refine ⟨_, rfl, ad, _, _, _, rfl, rfl, SqL.of hd, atI_nat (j := 43) (int_at ez), .inl ⟨_, rfl, _, _, rfl, rfl, (by show (0 : Int) < 16; decide), z % 16, rfl, by omega, by omega, for_range (lo := 0) (n := (z % 16).toNat)
    (fun i σ H' => Same H H' ∧ ∃ (xh' xp' xl' : V) (k' after' j' b' : Option V) (n : Nat) (c' : UC) (ps' : Past), UCA H' xh' c' ∧ PastA H' xp' ps' ∧ LCA H' xl' (down m c' ps') ∧ UCok m s c' ∧ PastOk m s ps' ∧ c'.t.wt ≤ 6 + i ∧ ps'.length ≤ 3 + i ∧ n ≤ 4 * i ∧
      iter (lowRows m s R) n (down m c ps) = some (down m c' ps') ∧ iter ((lowRows m s R).map bk) n (down m c' ps') = some (down m c ps) ∧ σ = sg a ad m s ar h lw (some xh') k' (some xp') first (some xl') (some (.int (n : Nat))) after' j' b' entered)
    ⟨.refl _, xh, xp, xl, k, after, j, before, 0, c, ps, hh, hp, hl, ok, pok, by omega, by omega, Nat.le_refl _, rfl, rfl, rfl⟩ ?_ ?_⟩⟩
  · rintro i σ H1 hi ⟨s1, xh', xp', xl', k', after', j', b', n, c', ps', hh', hp', hl', ok', pok', hw', hpl', hn, it1, it2, rfl⟩
    have hi : i < 16 := by omega
    refine ⟨_, rfl, _, rfl, _, rfl, ar, m, s, xs, R, xh', c', rfl, s1 _ _ har, hR.mono (fun _ _ z => URA.ts (Same.ts s1) z), u, m8, hh', ok', by omega, fun H2 xa s2 hxa => ?_⟩
    have s12 := s1.trans s2
    have O2 := O.same s12
    have hh2 := hh'.ts (Same.ts s2)
    have hp2 := hp'.ts (Same.ts s2)
    have hl2 := hl'.ts (Same.ts s2)
    have wd : (down m c' ps').wt ≤ 1000 := by rw [Past.len_notes]; omega
    refine ⟨_, rfl, rfl, _, rfl, ?_⟩
    cases e : stepU m R c' with
    | none =>
      rw [e] at hxa
      have hxa : xa = .non := hxa
      subst hxa
      rw [decide_eq_true rfl]
      refine iteT ?_
      have hs := halted (p := ps') u ok' e
      obtain ⟨d1, fs1, k1, k2⟩ := noS O2 (g := "step") (by decide +kernel) (by decide +kernel) (by decide +kernel) (by decide +kernel) (by decide +kernel) (by decide +kernel) (by decide +kernel)
      refine ⟨_, rfl, lw, d1, fs1, rfl, k1, k2, _, rfl, lw, lowRows m s R, xl', _, rfl, O2.low, hl2, by omega, fun H3 v3 s3 h3 => ?_⟩
      rw [if_neg Bool.false_ne_true, hs] at h3
      have h3 : v3 = .non := h3
      subst h3
      refine ⟨rfl, _, rfl, ?_⟩
      rw [decide_eq_true rfl]
      refine iteF ?_
      have O3 := O2.same s3
      obtain ⟨d2, fs2, k3, k4⟩ := noS O3 (g := "stopped") (by decide +kernel) (by decide +kernel) (by decide +kernel) (by decide +kernel) (by decide +kernel) (by decide +kernel) (by decide +kernel)
      refine ⟨_, rfl, lw, d2, fs2, rfl, k3, k4, _, rfl, lw, lowRows m s R, xl', _, rfl, O3.low, hl2.ts (Same.ts s3), by omega, hs, fun H4 s4 => ⟨true, true, rfl, rfl, _, rfl, ?_⟩⟩
      rw [decide_eq_true rfl]
      have s34 := s3.trans s4
      exact iteF ⟨s12.trans s34, xh', xp', xl', _, _, _, _, n, c', ps', hh2.ts (Same.ts s34), hp2.ts (Same.ts s34), hl2.ts (Same.ts s34), ok', pok', by omega, by omega, by omega, it1, it2, rfl⟩
    | some c2 =>
      rw [e] at hxa
      have hxa : UCA H2 xa c2 := hxa
      have xn : ¬ xa = V.non := by
        obtain ⟨_, _, _, e, _⟩ := hxa
        intro z
        rw [z] at e
        cases e
      rw [decide_eq_false xn]
      refine iteF ?_
      refine re _ H2 a ad m s ar h lw p ys R _ _ _ _ _ xh' xp' xl' xa c' c2 ps' n O2 u m8 hh2 hp2 hl2 hxa e ok' pok' (by omega) (by omega) fun H3 xh3 xp3 xl3 j3 b3 s3 hh3 hp3 hl3 => ?_
      obtain ⟨c1, c2', c3, F⟩ := four u ok' pok' e
      have w2 : c2.t.wt ≤ 6 + (i + 1) := by
        unfold stepU at e
        cases e5 : rowOf m R c' with
        | none => rw [e5] at e; cases e
        | some z =>
          rw [e5] at e
          have e : (⟨z.2.2, mvT z.2.1 ⟨c'.t.l, z.1, c'.t.r⟩⟩ : UC) = c2 := Option.some.inj e
          rw [← e]
          have h1 := wt_mvT z.2.1 ⟨c'.t.l, z.1, c'.t.r⟩
          have h2 : (⟨c'.t.l, z.1, c'.t.r⟩ : Tp).wt = c'.t.wt := rfl
          show (mvT z.2.1 ⟨c'.t.l, z.1, c'.t.r⟩).wt ≤ 6 + (i + 1)
          omega
      exact ⟨s12.trans s3, xh3, xp3, xl3, _, _, _, _, n + 4, c2, ps' ++ [(c'.q, c'.t.m)], hh3, hp3, hl3, F.ok, F.pok, w2, by rw [List.length_append, List.length_singleton]; omega, by omega,
        iter_snoc (iter_snoc (iter_snoc (iter_snoc it1 F.s1) F.s2) F.s3) F.s4, iter_cons F.b4 (iter_cons F.b3 (iter_cons F.b2 (iter_cons F.b1 it2))), rfl⟩
  · rintro σ H1 ⟨s1, xh', xp', xl', k', after', j', b', n, c', ps', hh', hp', hl', ok', pok', hw', hpl', hn, it1, it2, rfl⟩
    exact q _ _ _ _ _ _ _ _ n _ s1 hl' it1 it2 (by omega) (by rw [Past.len_notes]; omega)
end
end Bs

/-! the law: its end, and the whole -/
namespace Bs
open PySem L2
def dRun (c : LC) (n : Nat) : PyData := .tuple [dL c, .int (n : Nat)]
theorem shp_Run (c : LC) (n : Nat) : shp 5 (dRun c n) := shp_tup fun x hx => by
  simp only [List.mem_cons, List.not_mem_nil, or_false] at hx
  rcases hx with e | e <;> subst e
  · exact shp_L c
  · exact shp_le (shp_int _) (by decide)
theorem RunA.dp {K : PySem.W.Frag} {H : Hp} {u : V} {c : LC} {n : Nat} (h : RunA H u c n) : Dp K H u (dRun c n) := by
  obtain ⟨a, x, rfl, h, hx⟩ := h
  exact .tup (SqT.of h) (.cons hx.dp (.cons (.int _) .nil))
theorem RunA.same {H H' : Hp} (s : Same H H') {u : V} {c : LC} {n : Nat} (h : RunA H u c n) : RunA H' u c n := by
  obtain ⟨a, x, e, h, hx⟩ := h
  exact ⟨a, x, e, s _ _ h, hx.ts (Same.ts s)⟩
/-- a list of pairs within bounds -/
theorem pairs_of_acc {m s : Nat} {H : Hp} : ∀ {acc : List V}, (∀ (j : Nat) (v : V), acc[j]? = some v → ∃ x, PA2 H v x ∧ InM s x.1 ∧ InM m x.2) → ∃ ps : Past, Al (PA2 H) acc ps ∧ PastOk m s ps
  | [], _ => ⟨[], .nil, fun _ h => by cases h⟩
  | v :: acc, h => by
    obtain ⟨x, hx, h1, h2⟩ := h 0 v rfl
    obtain ⟨ps, hp, ok⟩ := pairs_of_acc (acc := acc) fun j v hj => h (j + 1) v hj
    refine ⟨x :: ps, hp.cons hx, fun y hy => ?_⟩
    rcases List.mem_cons.mp hy with e | e
    · rw [e]; exact ⟨h1, h2⟩
    · exact ok y e
section
variable {P : Program} {w : World} {K : PySem.W.Frag} {mg : Str → Option Value} {base : Heap} {CT CS CH : Addr} {f : Addr} {cdv : Value} {A : Around} {outer : List Env} {s0 : Shared} {H0 : Hp} {E : XK}
/-- what is asked behind the loop -/
theorem law_c (T : Txt K mg CT CS CH) (C : Cal P w K mg base CT CS CH) (hr : Room 7 (LX P w K mg base f cdv A outer s0 H0 E).A) : ∃ t, PSs (LX P w K mg base f cdv A outer s0 H0 E) ((defBody sLaw).drop 10) t ∧
    ∀ (D : Ends) (H : Hp) (a ad : Addr) (m s : Nat) (ar h lw p : Addr) (xs : List V) (R : List URow) (ds : List Int) (here k past after j before entered : Option V) (xf xl : V) (c : UC) (ps : Past) (n : Nat) (cl : LC) (z : Int),
      H ad = some (.lst (ds.map V.int)) → ds[42]? = some z → HisO CT CS CH H h p lw m s xs R → UOk m s R → LCA H xf (down m c ps) → LCA H xl cl → UCok m s c → (z % 4 ≤ 0 → ps = []) →
      iter (lowRows m s R) n (down m c ps) = some cl → iter ((lowRows m s R).map bk) n cl = some (down m c ps) → n ≤ 64 → cl.wt ≤ 1000 → (down m c ps).wt ≤ 1000 →
      (∀ H', D.rt (.bl true) H') →
      t D (sg a ad m s ar h lw here k past (some xf) (some xl) (some (.int (n : Nat))) after j before entered) H := by
  obtain ⟨f1, fd1, m1, b1, G1⟩ := C.run
  obtain ⟨f2, fd2, m2, b2, G2⟩ := C.runBack
  obtain ⟨f3, fd3, m3, b3, G3⟩ := C.back
  have hr5 : Room 5 (LX P w K mg base f cdv A outer s0 H0 E).A := hr.mono (by decide)
  have hr4 : Room 4 (LX P w K mg base f cdv A outer s0 H0 E).A := hr.mono (by decide)
  refine ⟨_, pss_cons (ps_if (PW.pt (L2.pw_or (pt_cmpR (by exact op_neD hr.units) (pe_meth (pv 6) T.cS m1 G1 hr5 b1 .nil pass0 (pa_cons (pv 10) (pa_cons (pv 12) pa_nil))) (pe_tup (pa_cons (pv 11) (pa_cons (pv 12) pa_nil))) (nomark _))
        (pw_or1 (pt_cmpR (by exact op_neD hr.units) (pe_meth (pv 6) T.cS m2 G2 hr5 b2 .nil pass0 (pa_cons (pv 11) (pa_cons (pv 12) pa_nil))) (pe_tup (pa_cons (pv 10) (pa_cons (pv 12) pa_nil))) (nomark _))))) (pss_one (ps_ret pe_bl)) pss_nil)
      (pss_cons (ps_if (pt_cmpR op_gt (pe_op op_mod (pe_callTy call_int1 (by rfl) T.int bInt (pa_cons (pe_ix ix_list (pv 1) pe_int (fun _ _ => rfl)) pa_nil)) pe_int) pe_int (nomark _)) (pss_one (ps_ret pe_bl)) pss_nil)
      (pss_cons (ps_set (i := 16) scLaw.nd rfl (Or.inl rfl) (pe_meth (pv 6) T.cS m3 G3 hr4 b3 .nil pass0 (pa_cons (pv 10) pa_nil)))
      (pss_one (ps_ret (pe_and (pe_cmpR (by exact op_eqD hr.units) (pv 16) (pe_tup (pa_cons (pe_op op_add (pv 3) (pe_ix ix_tup (pv 10) pe_int (fun _ _ => rfl))) (pa_cons (pe_tup (pa_cons (pe_ix ix_tup (pe_ix ix_tup (pv 10) pe_int (fun _ _ => rfl)) pe_int (fun _ _ => rfl))
          (pa_cons (pe_tup (pa_cons (pe_tup pa_nil) (pa_cons pe_int (pa_cons (pe_tup pa_nil) pa_nil)))) pa_nil))) pa_nil))) (nomark _))
        (pe_one (pe_cmpR op_isN (pe_meth (pv 6) T.cS m3 G3 hr4 b3 .nil pass0 (pa_cons (pv 16) pa_nil)) pe_non (nomark _)))))))), ?_⟩
  intro D H a ad m s ar h lw p xs R ds here k past after j before entered xf xl c ps n cl z hd hz O u hf hl ok hps it1 it2 hn hw hw0 q
  -- run, run_back
  obtain ⟨d1, fs1, k1, k2⟩ := noS O (g := "run") (by decide +kernel) (by decide +kernel) (by decide +kernel) (by decide +kernel) (by decide +kernel) (by decide +kernel) (by decide +kernel)
  refine ⟨_, rfl, lw, d1, fs1, rfl, k1, k2, _, rfl, _, rfl, lw, lowRows m s R, xf, _, cl, n, rfl, O.low, hf, by omega, it1, fun H1 u1 s1 h1 => ?_⟩
  refine ⟨_, rfl, _, rfl, (by show 2 ≤ sizeLine; decide), fun t1 ht1 => ?_⟩
  have q1 := nw (o := .tup [xl, .int (n : Nat)]) ht1
  have s11 := s1.trans q1
  refine rd_ne (RunA.dp (h1.same q1)) (RunA.dp ⟨t1, xl, rfl, upd_same, hl.ts (Same.ts s11)⟩) (shp_Run _ _) (by decide) ⟨_, rfl, iteF ?_⟩
  have O1 := O.same s11
  obtain ⟨d2, fs2, k3, k4⟩ := noS O1 (g := "run_back") (by decide +kernel) (by decide +kernel) (by decide +kernel) (by decide +kernel) (by decide +kernel) (by decide +kernel) (by decide +kernel)
  refine ⟨_, rfl, lw, d2, fs2, rfl, k3, k4, _, rfl, _, rfl, lw, lowRows m s R, xl, cl, _, n, rfl, O1.low, hl.ts (Same.ts s11), by omega, by rw [if_pos rfl]; exact it2, fun H2 u2 s2 h2 => ?_⟩
  refine ⟨_, rfl, _, rfl, (by show 2 ≤ sizeLine; decide), fun t2 ht2 => ?_⟩
  have q2 := nw (o := .tup [xf, .int (n : Nat)]) ht2
  have s12 := (s11.trans s2).trans q2
  refine rd_ne (RunA.dp (h2.same q2)) (RunA.dp ⟨t2, xf, rfl, upd_same, hf.ts (Same.ts s12)⟩) (shp_Run _ _) (by decide) ⟨_, rfl, iteF ?_⟩
  -- if int(draws[42]) % 4 > 0
  refine ⟨_, rfl, ad, _, _, _, rfl, rfl, SqL.of (s12 _ _ hd), atI_nat (j := 42) (int_at hz), .inl ⟨_, rfl, _, _, rfl, rfl, (by show (0 : Int) < 4; decide), _, _, rfl, rfl, _, rfl, ite2 (fun _ => q _) (fun hz0 => ?_)⟩⟩
  have hz0 : ¬ (0 : Int) < z % 4 := fun e => hz0 (decide_eq_true e)
  have eps : ps = [] := hps (by omega)
  subst eps
  obtain ⟨e1, e2⟩ := Bs.entered u ok
  -- entered = lower.back(first)
  have O2 := O.same s12
  have hf2 := hf.ts (Same.ts s12)
  obtain ⟨d3, fs3, k5, k6⟩ := noS O2 (g := "back") (by decide +kernel) (by decide +kernel) (by decide +kernel) (by decide +kernel) (by decide +kernel) (by decide +kernel) (by decide +kernel)
  refine ⟨_, rfl, lw, d3, fs3, rfl, k5, k6, _, rfl, lw, lowRows m s R, xf, _, rfl, O2.low, hf2, by omega, fun H3 xe s3 he => ?_⟩
  rw [if_pos rfl, e1] at he
  have he : LCA H3 xe ⟨s + c.q, c.t, ⟨[], 0, []⟩⟩ := he
  have s13 := s12.trans s3
  obtain ⟨af, bf, x, y, rfl, haf, hbf, hx, hy⟩ := hf.ts (Same.ts s13)
  -- the tuple
  refine ⟨_, rfl, _, rfl, _, rfl, af, _, _, _, rfl, rfl, SqT.of haf, atI_nat (j := 0) rfl, _, _, rfl, rfl, ?_⟩
  refine ⟨_, rfl, af, _, _, _, rfl, rfl, SqT.of haf, atI_nat (j := 1) rfl, bf, _, _, _, rfl, rfl, SqT.of hbf, atI_nat (j := 0) rfl, Nat.zero_le _, fun t3 ht3 => ?_⟩
  have q3 := nw (o := .tup []) ht3
  refine ⟨Nat.zero_le _, fun t4 ht4 => ?_⟩
  have q4 := nw (o := .tup []) ht4
  refine ⟨(by show 3 ≤ sizeLine; decide), fun t5 ht5 => ?_⟩
  have q5 := nw (o := .tup [.ref t3, .int 0, .ref t4]) ht5
  refine ⟨(by show 2 ≤ sizeLine; decide), fun t6 ht6 => ?_⟩
  have q6 := nw (o := .tup [x, .ref t5]) ht6
  refine ⟨(by show 2 ≤ sizeLine; decide), fun t7 ht7 => ?_⟩
  have q7 := nw (o := .tup [.int ((s : Int) + c.q), .ref t6]) ht7
  have q57 := (q5.trans q6).trans q7
  have q47 := q4.trans q57
  have q37 := q3.trans q47
  have he7 := he.ts (Same.ts q37)
  refine rd_eq (LCA.dp he7) (LCA.dp (c := ⟨s + c.q, c.t, ⟨[], 0, []⟩⟩) ⟨t7, t6, x, .ref t5, rfl, upd_same, q7 _ _ upd_same, hx.ts (Same.ts q37), t5, .ref t3, .ref t4, rfl, (q6.trans q7) _ _ upd_same, ⟨t3, rfl, q47 _ _ upd_same⟩, ⟨t4, rfl, q57 _ _ upd_same⟩⟩) (shp_L _) (by decide) ⟨true, rfl, iteT ?_⟩
  have O7 := O.same (s13.trans q37)
  obtain ⟨d4, fs4, k7, k8⟩ := noS O7 (g := "back") (by decide +kernel) (by decide +kernel) (by decide +kernel) (by decide +kernel) (by decide +kernel) (by decide +kernel) (by decide +kernel)
  have we : (⟨s + c.q, c.t, ⟨[], 0, []⟩⟩ : LC).wt ≤ 1000000 := by
    rw [Past.len_notes] at hw0
    show c.t.wt + 0 ≤ 1000000
    omega
  refine ⟨_, rfl, lw, d4, fs4, rfl, k7, k8, _, rfl, lw, lowRows m s R, xe, _, rfl, O7.low, he7, we, fun H8 v8 s8 h8 => ⟨rfl, ?_⟩⟩
  rw [if_pos rfl, e2] at h8
  have h8 : v8 = .non := h8
  subst h8
  rw [decide_eq_true rfl]
  exact q _
end
section
variable {P : Program} {w : World} {K : PySem.W.Frag} {mg : Str → Option Value} {base : Heap} {CT CS CH : Addr}
def spLaw (K : PySem.W.Frag) : Sp := fun vs H Q _ => ∃ (a : Addr) (ns : List Int), vs = [.ref a] ∧ SqL K H a (ns.map V.int) ∧ ns.length ≤ 63 ∧ ∀ H', Q (.bl true) H'
theorem cut_drop (ns : List Int) (k : Nat) : cutV (ns.map V.int) (some (k : Int)) none = (ns.drop k).map V.int := by
  unfold cutV
  rw [HT.sIx_none, HT.sIx_nat, List.length_map, ← List.map_drop, ← List.map_take]
  congr 1
  by_cases h : k ≤ ns.length
  · rw [Nat.min_eq_left h, List.take_of_length_le (by rw [List.length_drop]; omega)]
  · rw [Nat.min_eq_right (by omega), List.drop_length, List.drop_of_length_le (by omega), List.take_nil]
theorem ok_law {fa : Addr} {fd : FuncData} (F : Fun K "law" "law" sLaw fa fd) (T : Txt K mg CT CS CH) (C : Cal P w K mg base CT CS CH) : FnOk P w K mg base CX0 8 fa fd ["_law_script"] (spLaw K) := by
  refine F.ok scLaw (fun vs H Q E h => ?_) (fun cdv A outer s0 H vs Q E hr h => ?_)
  · obtain ⟨a, ns, rfl, _⟩ := h
    rfl
  · obtain ⟨a, ns, rfl, hS, hlen, q⟩ := h
    obtain ⟨tk, dk, rk⟩ := law_k (f := fa) (cdv := cdv) (A := A) (outer := outer) (s0 := s0) (H0 := H) (E := E) T C hr
    obtain ⟨tc', dc, rc⟩ := law_c (f := fa) (cdv := cdv) (A := A) (outer := outer) (s0 := s0) (H0 := H) (E := E) T C hr
    obtain ⟨f1, fd1, g1, k1, b1, G1⟩ := C.draws
    obtain ⟨f2, fd2, g2, k2, b2, G2⟩ := C.mach
    obtain ⟨f3, fd3, M3, b3, G3⟩ := C.tape
    obtain ⟨f4, fd4, M4, b4, G4⟩ := C.his
    obtain ⟨f5, fd5, g5, k5, b5, G5⟩ := C.conf
    obtain ⟨f6, fd6, m6, b6, G6⟩ := C.down
    have hr1 : Room 1 (LX P w K mg base fa cdv A outer s0 H E).A := hr.mono (by decide)
    have hr2 : Room 2 (LX P w K mg base fa cdv A outer s0 H E).A := hr.mono (by decide)
    have hr4 : Room 4 (LX P w K mg base fa cdv A outer s0 H E).A := hr.mono (by decide)
    refine ⟨_, pss_cons (ps_set (i := 1) scLaw.nd rfl (Or.inr rfl) (pe_call G1 hr1 (by rfl) g1 k1 b1 .nil pass0 (pa_cons (pv 0) (pa_cons pe_int pa_nil))))
      (pss_cons (ps_asg (pe_tup (pa_cons (pe_op op_add pe_int (pe_op op_mod (pe_callTy call_int1 (by rfl) T.int bInt (pa_cons (pe_ix ix_list (pv 1) pe_int (fun _ _ => rfl)) pa_nil)) pe_int))
          (pa_cons (pe_op op_add pe_int (pe_op op_mod (pe_callTy call_int1 (by rfl) T.int bInt (pa_cons (pe_ix ix_list (pv 1) pe_int (fun _ _ => rfl)) pa_nil)) pe_int)) pa_nil)))
        (pg_tup (by rfl) (pgs_cons (pg_name (i := 2) scLaw.nd rfl (Or.inr rfl)) (pgs_cons (pg_name (i := 3) scLaw.nd rfl (Or.inr rfl)) pgs_nil))))
      (pss_cons (ps_set (i := 4) scLaw.nd rfl (Or.inl rfl) (pe_call G2 hr1 (by rfl) g2 k2 b2 .nil pass0 (pa_cons (pv 1) (pa_cons (pv 2) (pa_cons (pv 3) pa_nil)))))
      (pss_cons (ps_set (i := 5) scLaw.nd rfl (Or.inl rfl) (pe_make M4 G4 hr (by rfl) T.gH b4 .nil pass0 (pa_cons (pe_make M3 G3 hr4 (by rfl) T.gT b3 .nil pass0 (pa_cons (pv 2) (pa_cons (pv 3) (pa_cons (pv 4) pa_nil)))) pa_nil)))
      (pss_cons (ps_set (i := 6) scLaw.nd rfl (Or.inl rfl) (pe_fld (pv 5) rfl))
      (pss_cons (ps_set (i := 7) scLaw.nd rfl (Or.inl rfl) (pe_call G5 hr2 (by rfl) g5 k5 b5 .nil pass0 (pa_cons (pe_slice sl_list (pv 1) (po_some pe_int) po_none) (pa_cons (pv 2) (pa_cons (pv 3) (pa_cons pe_int pa_nil))))))
      (pss_cons (ps_set (i := 9) scLaw.nd rfl (Or.inl rfl) (pe_callTy call_tuple_of (by rfl) T.tuple bTuple (pa_cons
        (pe_lc (own := [("_law_k", 8)]) (g := gName 8) (tt := tYes) (te := tTup (tCons (tOp rModP (tCB rInt1 (tCons (tOp (rIxL K) (tVar 1) (tOp (rI0 fun i j => .int (i + j)) (tC (.int 44)) (tVar 8))) tNil)) (tVar 3)) (tCons (tOp rModP (tCB rInt1 (tCons (tOp (rIxL K) (tVar 1) (tOp (rI0 fun i j => .int (i + j)) (tC (.int 50)) (tVar 8))) tNil)) (tVar 2)) tNil))) rfl scLaw.nd
          (pi_range1 (by rfl) T.range (pa_cons (pe_op op_mod (pe_callTy call_int1 (by rfl) T.int bInt (pa_cons (pe_ix ix_list (pv 1) pe_int (fun _ _ => rfl)) pa_nil)) pe_int) pa_nil))
          (blkOk_by (N := NL) (sc := defScope sLaw) (by decide +kernel)) (fun _ _ _ _ _ => pg_name (i := 8) scLaw.nd rfl (Or.inl rfl)) (fun _ _ _ _ _ => pts_nil)
          (fun _ _ _ _ _ => pe_tup (pa_cons (pe_op op_mod (pe_callTy call_int1 (by rfl) T.int bInt (pa_cons (pe_ix ix_list (pv 1) (pe_op op_add pe_int (pv 8)) (fun _ _ => rfl)) pa_nil)) (pv 3)) (pa_cons (pe_op op_mod (pe_callTy call_int1 (by rfl) T.int bInt (pa_cons (pe_ix ix_list (pv 1) (pe_op op_add pe_int (pv 8)) (fun _ _ => rfl)) pa_nil)) (pv 2)) pa_nil)))) pa_nil)))
      (pss_cons (ps_set (i := 10) scLaw.nd rfl (Or.inl rfl) (pe_meth (pv 5) T.cH m6 G6 hr1 b6 .nil pass0 (pa_cons (pv 7) (pa_cons (pv 9) pa_nil))))
      (pss_cons (ps_par (i := 11) (j := 12) rfl scLaw.nd rfl rfl (by decide) rfl rfl (pa_cons (pv 10) (pa_cons pe_int pa_nil)) (by rfl))
      (pss_cons dk dc))))))))), ?_⟩
    -- _law_draws_here
    refine ⟨_, rfl, a, ns, rfl, hS, hlen, fun H1 ad ds s1 hd dl => ?_⟩
    have at_ : ∀ k, k < 70 → ∃ z, ds[k]? = some z := fun k hk => ⟨ds[k], List.getElem?_eq_getElem (by omega)⟩
    obtain ⟨z40, e40⟩ := at_ 40 (by decide)
    obtain ⟨z41, e41⟩ := at_ 41 (by decide)
    obtain ⟨z42, e42⟩ := at_ 42 (by decide)
    -- _law_marks, _law_states
    refine ⟨_, rfl, ad, _, _, _, rfl, rfl, SqL.of hd, atI_nat (j := 40) (int_at e40), .inl ⟨_, rfl, _, _, rfl, rfl, (by show (0 : Int) < 3; decide), _, _, rfl, rfl, ?_⟩⟩
    refine ⟨_, rfl, ad, _, _, _, rfl, rfl, SqL.of hd, atI_nat (j := 41) (int_at e41), .inl ⟨_, rfl, _, _, rfl, rfl, (by show (0 : Int) < 4; decide), _, _, rfl, rfl, (by show 2 ≤ sizeLine; decide), fun t1 ht1 => ?_⟩⟩
    have q1 := nw (o := .tup [.int (2 + z40 % 3), .int (1 + z41 % 4)]) ht1
    refine ⟨t1, _, rfl, SqT.of upd_same, rfl, _, _, rfl, _, _, rfl, rfl, ?_⟩
    obtain ⟨m, em, m2, m4⟩ : ∃ m : Nat, (2 : Int) + z40 % 3 = m ∧ 2 ≤ m ∧ m ≤ 4 := ⟨(2 + z40 % 3).toNat, by omega, by omega, by omega⟩
    obtain ⟨s, es, s1', s4⟩ : ∃ s : Nat, (1 : Int) + z41 % 4 = s ∧ 1 ≤ s ∧ s ≤ 4 := ⟨(1 + z41 % 4).toNat, by omega, by omega, by omega⟩
    have sH1 := s1.trans q1
    have hd1 := q1 _ _ hd
    generalize upd H1 t1 (.tup [.int (2 + z40 % 3), .int (1 + z41 % 4)]) = H1' at q1 sH1 hd1 ⊢
    show tSeq _ _ _ ([some (.ref a), some (.ref ad), some (.int (2 + z40 % 3)), some (.int (1 + z41 % 4)), none, none, none, none, none, none, none, none, none, none, none, none, none] : L2.St) H1'
    rw [em, es]
    have hms : m * s ≤ 4 * 4 := Nat.mul_le_mul m4 s4
    -- _law_rows
    refine ⟨_, rfl, _, rfl, _, rfl, ad, ds, m, s, rfl, hd1, by omega, m2, by omega, s1', by omega, fun H2 ar xs R s2 har hR u => ?_⟩
    -- History(Tape(..))
    refine ⟨_, rfl, _, rfl, _, rfl, ?_⟩
    intro xT dT nT ndT neT
    have sn : Same H2 (upd (upd H2 dT (.own xT)) xT (.ins CT dT [])) := fun b o e => by
      rw [upd_ne (ne_of_none e nT), upd_ne (ne_of_none e ndT)]
      exact e
    refine ⟨xT, dT, ar, m, s, xs, R, rfl, upd_same, sn _ _ har, hR.mono (fun _ _ z => URA.ts (Same.ts sn) z), u, m2, by omega, s1', by omega, fun H3 k3 O3 => ⟨rfl, ?_⟩⟩
    have s23 : Same H2 H3 := fun b o e => k3 _ _ (ne_of_none e nT) (sn _ _ e)
    intro xH dH nH ndH neH
    have sn2 : Same H3 (upd (upd H3 dH (.own xH)) xH (.ins CH dH [])) := fun b o e => by
      rw [upd_ne (ne_of_none e nH), upd_ne (ne_of_none e ndH)]
      exact e
    have nHT : xH ≠ xT := by
      obtain ⟨dx, fs, _, e, _⟩ := O3.ex
      exact fun z => ne_of_none e nH z.symm
    have s2n := s23.trans sn2
    refine ⟨xH, dH, xT, m, s, xs, R, rfl, upd_same, O3.same sn2, nHT, hR.mono (fun _ _ z => URA.ts (Same.ts s2n) z), u, m2, by omega, s1', by omega, fun H4 lw k4 O4 => ⟨rfl, ?_⟩⟩
    have s24 : Same H2 H4 := fun b o e => k4 _ _ (ne_of_none (s23 _ _ e) nH) (s2n _ _ e)
    have s14 := s2.trans s24
    have hd4 := s14 _ _ hd1
    have har4 := s24 _ _ har
    have hR4 := hR.mono (fun _ _ z => URA.ts (Same.ts s24) z)
    -- _law_lower
    obtain ⟨dh, fh, kh1, kh2, kh3, kh4⟩ := O4.ex
    refine ⟨_, rfl, xH, CH, dh, fh, _, rfl, kh1, T.cH, T.hLower, kh3, ?_⟩
    -- _law_here
    refine ⟨_, rfl, 20, rfl, ad, _, rfl, SqL.of hd4, fun l hl => ?_⟩
    have ec : cutV (ds.map V.int) (some 20) none = (ds.drop 20).map V.int := cut_drop ds 20
    rw [ec]
    have q5 := nw (o := .lst ((ds.drop 20).map V.int)) hl
    refine ⟨_, rfl, _, rfl, l, ds.drop 20, m, s, rfl, upd_same, by rw [List.length_drop]; omega, by omega, s1', fun H5 xh c s5 hU ok hw => ?_⟩
    have s45 := q5.trans s5
    have hd5 := s45 _ _ hd4
    -- _law_past
    refine ⟨_, rfl, ad, _, _, _, rfl, rfl, SqL.of hd5, atI_nat (j := 42) (int_at e42), .inl ⟨_, rfl, _, _, rfl, rfl, (by show (0 : Int) < 4; decide), z42 % 4, rfl, by omega, by omega, fun L hL => ?_⟩⟩
    refine lc_mapR (walk_range0 (n := (z42 % 4).toNat)) (fun _ v H => ∃ x, PA2 H v x ∧ InM s x.1 ∧ InM m x.2) hL (by rw [sizeLine_eq]; omega) (fun _ _ _ _ k ⟨x, h1, h2⟩ => ⟨x, h1.ts k, h2⟩) (fun _ _ => True.intro) yFn_same ?_ ?_
    · rintro j v H6 H6' NX lt s6 ⟨rfl, rfl⟩ k
      obtain ⟨z1, ez1⟩ := at_ (44 + j) (by omega)
      obtain ⟨z2, ez2⟩ := at_ (50 + j) (by omega)
      have hd6 := s6 _ _ hd5
      refine ⟨rfl, _, rfl, _, rfl, _, _, rfl, rfl, ad, _, _, _, rfl, rfl, SqL.of hd6, at_of (j := 44 + j) (by omega) (int_at ez1), .inl ⟨_, rfl, _, rfl, _, _, rfl, rfl, by omega, ?_⟩⟩
      refine ⟨_, rfl, _, rfl, _, _, rfl, rfl, ad, _, _, _, rfl, rfl, SqL.of hd6, at_of (j := 50 + j) (by omega) (int_at ez2), .inl ⟨_, rfl, _, rfl, _, _, rfl, rfl, by omega, (by show 2 ≤ sizeLine; decide), fun t ht => ?_⟩⟩
      exact k _ _ (nw ht) ⟨(z1 % (s : Int), z2 % (m : Int)), ⟨t, rfl, upd_same⟩, ⟨Int.emod_nonneg _ (by omega), Int.emod_lt_of_pos _ (by omega)⟩, Int.emod_nonneg _ (by omega), Int.emod_lt_of_pos _ (by omega)⟩
    intro H6 acc s6 eD la r
    obtain ⟨ps, hAl, pok⟩ := pairs_of_acc r
    refine ⟨L, _, rfl, .inl ⟨SqL.of eD, fun t6 ht6 => ?_⟩⟩
    have q6 := nw (o := .tup acc) ht6
    have s46 := (s45.trans s6).trans q6
    have hP : PastA (upd H6 t6 (.tup acc)) (.ref t6) ps := ⟨t6, acc, rfl, upd_same, hAl.mono (fun _ _ z => PA2.ts (Same.ts q6) z)⟩
    have hlp : ps.length = (z42 % 4).toNat := hAl.1.symm.trans la
    have hU6 := hU.ts (Same.ts (s6.trans q6))
    have O6 := O4.same s46
    -- _law_first
    obtain ⟨d6, fs6, n1, n2⟩ := noH O6 (g := "down") (by decide +kernel) (by decide +kernel) (by decide +kernel)
    refine ⟨_, rfl, xH, d6, fs6, rfl, n1, n2, _, rfl, _, rfl, xH, xT, lw, m, s, xs, R, xh, .ref t6, c, ps, rfl, O6, by omega, hU6, hP, by omega, fun H7 xf s7 hf => ?_⟩
    have s47 := s46.trans s7
    have O7 := O6.same s7
    -- _law_low, _law_taken
    refine ⟨_, rfl, _, _, rfl, ?_⟩
    refine rk _ H7 a ad m s ar xH lw xT xs xs R ds _ _ _ _ _ _ xh (.ref t6) xf c ps (s47 _ _ hd4) dl (s47 _ _ har4) (hR4.mono (fun _ _ z => URA.ts (Same.ts s47) z)) O7 u (by omega) (hU6.ts (Same.ts s7)) (hP.ts (Same.ts s7)) hf ok pok hw (by omega) fun H8 xh' xp' xl' k' after' j' b' n cl s8 hl8 it1 it2 hn hw8 => ?_
    exact rc _ H8 a ad m s ar xH lw xT xs R ds _ _ _ _ _ _ _ xf xl' c ps n cl z42 (s8 _ _ (s47 _ _ hd4)) e42 (O7.same s8) u (hf.ts (Same.ts s8)) hl8 ok (fun hz => List.length_eq_zero_iff.mp (by omega)) it1 it2 hn hw8 (by rw [Past.len_notes]; omega) q
end
end Bs

/-! what the top has left; the law's own row. Printed by genend.py. -/
namespace Bs
open PySem L2
theorem all_mk {l : PySem.W.OpenLaw} {w : World} {K : PySem.W.Frag} {h : Heap} {mg : Str → Option Value} {fa : Addr} (X : K.In h) (G : h.Ns mainGlobals mg) (hfa : mg "law" = some (.ref fa))
    {f1 : Addr} {od1 an1 : Option Addr} {sl1 : Array (Option Value)} {oc1 kV1 dc1 pm1 cd1 ct1 : Value}
    {f2 : Addr} {od2 an2 : Option Addr} {sl2 : Array (Option Value)} {oc2 kV2 dc2 pm2 cd2 ct2 : Value}
    {f3 : Addr} {od3 an3 : Option Addr} {sl3 : Array (Option Value)} {oc3 kV3 dc3 pm3 cd3 ct3 : Value}
    {f4 : Addr} {od4 an4 : Option Addr} {sl4 : Array (Option Value)} {oc4 kV4 dc4 pm4 cd4 ct4 : Value}
    {f5 : Addr} {od5 an5 : Option Addr} {sl5 : Array (Option Value)} {oc5 kV5 dc5 pm5 cd5 ct5 : Value}
    {f6 : Addr} {od6 an6 : Option Addr} {sl6 : Array (Option Value)} {oc6 kV6 dc6 pm6 cd6 ct6 : Value}
    {f7 : Addr} {od7 an7 : Option Addr} {sl7 : Array (Option Value)} {oc7 kV7 dc7 pm7 cd7 ct7 : Value}
    {f8 : Addr} {od8 an8 : Option Addr} {sl8 : Array (Option Value)} {oc8 kV8 dc8 pm8 cd8 ct8 : Value}
    {f9 : Addr} {od9 an9 : Option Addr} {sl9 : Array (Option Value)} {oc9 kV9 dc9 pm9 cd9 ct9 : Value}
    {f10 : Addr} {od10 an10 : Option Addr} {sl10 : Array (Option Value)} {oc10 kV10 dc10 pm10 cd10 ct10 : Value}
    {f11 : Addr} {od11 an11 : Option Addr} {sl11 : Array (Option Value)} {oc11 kV11 dc11 pm11 cd11 ct11 : Value}
    {f12 : Addr} {od12 an12 : Option Addr} {sl12 : Array (Option Value)} {oc12 kV12 dc12 pm12 cd12 ct12 : Value}
    {f13 : Addr} {od13 an13 : Option Addr} {sl13 : Array (Option Value)} {oc13 kV13 dc13 pm13 cd13 ct13 : Value}
    {f14 : Addr} {od14 an14 : Option Addr} {sl14 : Array (Option Value)} {oc14 kV14 dc14 pm14 cd14 ct14 : Value}
    {f15 : Addr} {od15 an15 : Option Addr} {sl15 : Array (Option Value)} {oc15 kV15 dc15 pm15 cd15 ct15 : Value}
    {f16 : Addr} {od16 an16 : Option Addr} {sl16 : Array (Option Value)} {oc16 kV16 dc16 pm16 cd16 ct16 : Value}
    {f17 : Addr} {od17 an17 : Option Addr} {sl17 : Array (Option Value)} {oc17 kV17 dc17 pm17 cd17 ct17 : Value}
    {CT : Addr}
    {f18 : Addr} {od18 an18 : Option Addr} {sl18 : Array (Option Value)} {oc18 kV18 dc18 pm18 cd18 ct18 : Value}
    {f19 : Addr} {od19 an19 : Option Addr} {sl19 : Array (Option Value)} {oc19 kV19 dc19 pm19 cd19 ct19 : Value}
    {f20 : Addr} {od20 an20 : Option Addr} {sl20 : Array (Option Value)} {oc20 kV20 dc20 pm20 cd20 ct20 : Value}
    {f21 : Addr} {od21 an21 : Option Addr} {sl21 : Array (Option Value)} {oc21 kV21 dc21 pm21 cd21 ct21 : Value}
    {f22 : Addr} {od22 an22 : Option Addr} {sl22 : Array (Option Value)} {oc22 kV22 dc22 pm22 cd22 ct22 : Value}
    {CS : Addr}
    {f23 : Addr} {od23 an23 : Option Addr} {sl23 : Array (Option Value)} {oc23 kV23 dc23 pm23 cd23 ct23 : Value}
    {f24 : Addr} {od24 an24 : Option Addr} {sl24 : Array (Option Value)} {oc24 kV24 dc24 pm24 cd24 ct24 : Value}
    {f25 : Addr} {od25 an25 : Option Addr} {sl25 : Array (Option Value)} {oc25 kV25 dc25 pm25 cd25 ct25 : Value}
    {f26 : Addr} {od26 an26 : Option Addr} {sl26 : Array (Option Value)} {oc26 kV26 dc26 pm26 cd26 ct26 : Value}
    {f27 : Addr} {od27 an27 : Option Addr} {sl27 : Array (Option Value)} {oc27 kV27 dc27 pm27 cd27 ct27 : Value}
    {f28 : Addr} {od28 an28 : Option Addr} {sl28 : Array (Option Value)} {oc28 kV28 dc28 pm28 cd28 ct28 : Value}
    {f29 : Addr} {od29 an29 : Option Addr} {sl29 : Array (Option Value)} {oc29 kV29 dc29 pm29 cd29 ct29 : Value}
    {f30 : Addr} {od30 an30 : Option Addr} {sl30 : Array (Option Value)} {oc30 kV30 dc30 pm30 cd30 ct30 : Value}
    {CH : Addr}
    {f31 : Addr} {od31 an31 : Option Addr} {sl31 : Array (Option Value)} {oc31 kV31 dc31 pm31 cd31 ct31 : Value}
    {f32 : Addr} {od32 an32 : Option Addr} {sl32 : Array (Option Value)} {oc32 kV32 dc32 pm32 cd32 ct32 : Value}
    {f33 : Addr} {od33 an33 : Option Addr} {sl33 : Array (Option Value)} {oc33 kV33 dc33 pm33 cd33 ct33 : Value}
    {f34 : Addr} {od34 an34 : Option Addr} {sl34 : Array (Option Value)} {oc34 kV34 dc34 pm34 cd34 ct34 : Value}
    {t_mmT : Tok}
    {t_msT : Tok}
    {t_mt : Tok}
    {t_mmS : Tok}
    {t_msS : Tok}
    {t_mr : Tok}
    {f35 : Addr} {od35 an35 : Option Addr} {sl35 : Array (Option Value)} {oc35 kV35 dc35 pm35 cd35 ct35 : Value}
    (a1 : PySem.W.nsIn K mainGlobals "is_integer" = some (some (.ref f1)))
    (l1 : K.lookup f1 = some ⟨oc1, od1, .func (PySem.W.fnOf "is_integer" "is_integer" (defArgs sIsInt) (defBody sIsInt) (defScope sIsInt) .none kV1 dc1 pm1 an1 cd1 ct1), sl1⟩)
    (c1 : PySem.W.codeIn K cd1 "is_integer" = true)
    (k1 : PySem.W.keepIn K (.ref f1) = true)
    (a2 : PySem.W.nsIn K mainGlobals "trimmed" = some (some (.ref f2)))
    (l2 : K.lookup f2 = some ⟨oc2, od2, .func (PySem.W.fnOf "trimmed" "trimmed" (defArgs sTrim) (defBody sTrim) (defScope sTrim) .none kV2 dc2 pm2 an2 cd2 ct2), sl2⟩)
    (c2 : PySem.W.codeIn K cd2 "trimmed" = true)
    (k2 : PySem.W.keepIn K (.ref f2) = true)
    (a3 : PySem.W.nsIn K mainGlobals "is_number" = some (some (.ref f3)))
    (l3 : K.lookup f3 = some ⟨oc3, od3, .func (PySem.W.fnOf "is_number" "is_number" (defArgs sIsNum) (defBody sIsNum) (defScope sIsNum) .none kV3 dc3 pm3 an3 cd3 ct3), sl3⟩)
    (c3 : PySem.W.codeIn K cd3 "is_number" = true)
    (k3 : PySem.W.keepIn K (.ref f3) = true)
    (a4 : PySem.W.nsIn K mainGlobals "is_tuple" = some (some (.ref f4)))
    (l4 : K.lookup f4 = some ⟨oc4, od4, .func (PySem.W.fnOf "is_tuple" "is_tuple" (defArgs sIsTup) (defBody sIsTup) (defScope sIsTup) .none kV4 dc4 pm4 an4 cd4 ct4), sl4⟩)
    (c4 : PySem.W.codeIn K cd4 "is_tuple" = true)
    (k4 : PySem.W.keepIn K (.ref f4) = true)
    (a5 : PySem.W.nsIn K mainGlobals "backward" = some (some (.ref f5)))
    (l5 : K.lookup f5 = some ⟨oc5, od5, .func (PySem.W.fnOf "backward" "backward" (defArgs sBackward) (defBody sBackward) (defScope sBackward) .none kV5 dc5 pm5 an5 cd5 ct5), sl5⟩)
    (c5 : PySem.W.codeIn K cd5 "backward" = true)
    (k5 : PySem.W.keepIn K (.ref f5) = true)
    (a6 : PySem.W.nsIn K mainGlobals "first_clash" = some (some (.ref f6)))
    (l6 : K.lookup f6 = some ⟨oc6, od6, .func (PySem.W.fnOf "first_clash" "first_clash" (defArgs sFirst) (defBody sFirst) (defScope sFirst) .none kV6 dc6 pm6 an6 cd6 ct6), sl6⟩)
    (c6 : PySem.W.codeIn K cd6 "first_clash" = true)
    (k6 : PySem.W.keepIn K (.ref f6) = true)
    (a7 : PySem.W.nsIn K mainGlobals "_clash_among" = some (some (.ref f7)))
    (l7 : K.lookup f7 = some ⟨oc7, od7, .func (PySem.W.fnOf "_clash_among" "_clash_among" (defArgs sClash) (defBody sClash) (defScope sClash) .none kV7 dc7 pm7 an7 cd7 ct7), sl7⟩)
    (c7 : PySem.W.codeIn K cd7 "_clash_among" = true)
    (k7 : PySem.W.keepIn K (.ref f7) = true)
    (a8 : PySem.W.nsIn K mainGlobals "_table_of" = some (some (.ref f8)))
    (l8 : K.lookup f8 = some ⟨oc8, od8, .func (PySem.W.fnOf "_table_of" "_table_of" (defArgs sTable) (defBody sTable) (defScope sTable) .none kV8 dc8 pm8 an8 cd8 ct8), sl8⟩)
    (c8 : PySem.W.codeIn K cd8 "_table_of" = true)
    (k8 : PySem.W.keepIn K (.ref f8) = true)
    (a9 : PySem.W.nsIn K mainGlobals "moved_tape" = some (some (.ref f9)))
    (l9 : K.lookup f9 = some ⟨oc9, od9, .func (PySem.W.fnOf "moved_tape" "moved_tape" (defArgs sMoved) (defBody sMoved) (defScope sMoved) .none kV9 dc9 pm9 an9 cd9 ct9), sl9⟩)
    (c9 : PySem.W.codeIn K cd9 "moved_tape" = true)
    (k9 : PySem.W.keepIn K (.ref f9) = true)
    (a10 : PySem.W.nsIn K mainGlobals "_taken" = some (some (.ref f10)))
    (l10 : K.lookup f10 = some ⟨oc10, od10, .func (PySem.W.fnOf "_taken" "_taken" (defArgs sTaken) (defBody sTaken) (defScope sTaken) .none kV10 dc10 pm10 an10 cd10 ct10), sl10⟩)
    (c10 : PySem.W.codeIn K cd10 "_taken" = true)
    (k10 : PySem.W.keepIn K (.ref f10) = true)
    (a11 : PySem.W.nsIn K mainGlobals "_run" = some (some (.ref f11)))
    (l11 : K.lookup f11 = some ⟨oc11, od11, .func (PySem.W.fnOf "_run" "_run" (defArgs sRun) (defBody sRun) (defScope sRun) .none kV11 dc11 pm11 an11 cd11 ct11), sl11⟩)
    (c11 : PySem.W.codeIn K cd11 "_run" = true)
    (k11 : PySem.W.keepIn K (.ref f11) = true)
    (a12 : PySem.W.nsIn K mainGlobals "pairs_of" = some (some (.ref f12)))
    (l12 : K.lookup f12 = some ⟨oc12, od12, .func (PySem.W.fnOf "pairs_of" "pairs_of" (defArgs sPairs) (defBody sPairs) (defScope sPairs) .none kV12 dc12 pm12 an12 cd12 ct12), sl12⟩)
    (c12 : PySem.W.codeIn K cd12 "pairs_of" = true)
    (k12 : PySem.W.keepIn K (.ref f12) = true)
    (a13 : PySem.W.nsIn K mainGlobals "_law_draws" = some (some (.ref f13)))
    (l13 : K.lookup f13 = some ⟨oc13, od13, .func (PySem.W.fnOf "_law_draws" "_law_draws" (defArgs sLDraws) (defBody sLDraws) (defScope sLDraws) .none kV13 dc13 pm13 an13 cd13 ct13), sl13⟩)
    (c13 : PySem.W.codeIn K cd13 "_law_draws" = true)
    (k13 : PySem.W.keepIn K (.ref f13) = true)
    (a14 : PySem.W.nsIn K mainGlobals "_law_machine" = some (some (.ref f14)))
    (l14 : K.lookup f14 = some ⟨oc14, od14, .func (PySem.W.fnOf "_law_machine" "_law_machine" (defArgs sLMach) (defBody sLMach) (defScope sLMach) .none kV14 dc14 pm14 an14 cd14 ct14), sl14⟩)
    (c14 : PySem.W.codeIn K cd14 "_law_machine" = true)
    (k14 : PySem.W.keepIn K (.ref f14) = true)
    (a15 : PySem.W.nsIn K mainGlobals "_law_trimmed" = some (some (.ref f15)))
    (l15 : K.lookup f15 = some ⟨oc15, od15, .func (PySem.W.fnOf "_law_trimmed" "_law_trimmed" (defArgs sLTrim) (defBody sLTrim) (defScope sLTrim) .none kV15 dc15 pm15 an15 cd15 ct15), sl15⟩)
    (c15 : PySem.W.codeIn K cd15 "_law_trimmed" = true)
    (k15 : PySem.W.keepIn K (.ref f15) = true)
    (a16 : PySem.W.nsIn K mainGlobals "_law_configuration" = some (some (.ref f16)))
    (l16 : K.lookup f16 = some ⟨oc16, od16, .func (PySem.W.fnOf "_law_configuration" "_law_configuration" (defArgs sLConf) (defBody sLConf) (defScope sLConf) .none kV16 dc16 pm16 an16 cd16 ct16), sl16⟩)
    (c16 : PySem.W.codeIn K cd16 "_law_configuration" = true)
    (k16 : PySem.W.keepIn K (.ref f16) = true)
    (a17 : PySem.W.nsIn K mainGlobals "_law_step" = some (some (.ref f17)))
    (l17 : K.lookup f17 = some ⟨oc17, od17, .func (PySem.W.fnOf "_law_step" "_law_step" (defArgs sLStep) (defBody sLStep) (defScope sLStep) .none kV17 dc17 pm17 an17 cd17 ct17), sl17⟩)
    (c17 : PySem.W.codeIn K cd17 "_law_step" = true)
    (k17 : PySem.W.keepIn K (.ref f17) = true)
    (aCT : PySem.W.nsIn K mainGlobals "Tape" = some (some (.ref CT)))
    (pgCT : PySem.W.plainGet K CT Str.empty = true)
    (hdCT : PySem.W.hasDictIn K CT = true)
    (poCT : PySem.W.plainOver K CT = true)
    (saCT : PySem.W.findIn K (.ref CT) "__setattr__" = some (some (.builtin "object.__setattr__")))
    (mkCT : PySem.W.makesIn K CT = true)
    (kcCT : PySem.W.keepIn K (.ref CT) = true)
    (a18 : PySem.W.findIn K (.ref CT) "__init__" = some (some (.ref f18)))
    (i18 : PySem.W.isFn K (.ref f18) = true)
    (l18 : K.lookup f18 = some ⟨oc18, od18, .func (PySem.W.fnOf "__init__" "Tape.__init__" (defArgs sTInit) (defBody sTInit) (defScope sTInit) .none kV18 dc18 pm18 an18 cd18 ct18), sl18⟩)
    (c18 : PySem.W.codeIn K cd18 "Tape.__init__" = true)
    (k18 : PySem.W.keepIn K (.ref f18) = true)
    (a19 : PySem.W.findIn K (.ref CT) "_is_row" = some (some (.ref f19)))
    (i19 : PySem.W.isFn K (.ref f19) = true)
    (l19 : K.lookup f19 = some ⟨oc19, od19, .func (PySem.W.fnOf "_is_row" "Tape._is_row" (defArgs sTIsRow) (defBody sTIsRow) (defScope sTIsRow) .none kV19 dc19 pm19 an19 cd19 ct19), sl19⟩)
    (c19 : PySem.W.codeIn K cd19 "Tape._is_row" = true)
    (k19 : PySem.W.keepIn K (.ref f19) = true)
    (a20 : PySem.W.findIn K (.ref CT) "row" = some (some (.ref f20)))
    (i20 : PySem.W.isFn K (.ref f20) = true)
    (l20 : K.lookup f20 = some ⟨oc20, od20, .func (PySem.W.fnOf "row" "Tape.row" (defArgs sTRow) (defBody sTRow) (defScope sTRow) .none kV20 dc20 pm20 an20 cd20 ct20), sl20⟩)
    (c20 : PySem.W.codeIn K cd20 "Tape.row" = true)
    (k20 : PySem.W.keepIn K (.ref f20) = true)
    (a21 : PySem.W.findIn K (.ref CT) "_is_side" = some (some (.ref f21)))
    (i21 : PySem.W.isFn K (.ref f21) = true)
    (l21 : K.lookup f21 = some ⟨oc21, od21, .func (PySem.W.fnOf "_is_side" "Tape._is_side" (defArgs sTSide) (defBody sTSide) (defScope sTSide) .none kV21 dc21 pm21 an21 cd21 ct21), sl21⟩)
    (c21 : PySem.W.codeIn K cd21 "Tape._is_side" = true)
    (k21 : PySem.W.keepIn K (.ref f21) = true)
    (a22 : PySem.W.findIn K (.ref CT) "is_configuration" = some (some (.ref f22)))
    (i22 : PySem.W.isFn K (.ref f22) = true)
    (l22 : K.lookup f22 = some ⟨oc22, od22, .func (PySem.W.fnOf "is_configuration" "Tape.is_configuration" (defArgs sTConf) (defBody sTConf) (defScope sTConf) .none kV22 dc22 pm22 an22 cd22 ct22), sl22⟩)
    (c22 : PySem.W.codeIn K cd22 "Tape.is_configuration" = true)
    (k22 : PySem.W.keepIn K (.ref f22) = true)
    (aCS : PySem.W.nsIn K mainGlobals "Several" = some (some (.ref CS)))
    (pgCS : PySem.W.plainGet K CS Str.empty = true)
    (hdCS : PySem.W.hasDictIn K CS = true)
    (poCS : PySem.W.plainOver K CS = true)
    (saCS : PySem.W.findIn K (.ref CS) "__setattr__" = some (some (.builtin "object.__setattr__")))
    (mkCS : PySem.W.makesIn K CS = true)
    (kcCS : PySem.W.keepIn K (.ref CS) = true)
    (a23 : PySem.W.findIn K (.ref CS) "__init__" = some (some (.ref f23)))
    (i23 : PySem.W.isFn K (.ref f23) = true)
    (l23 : K.lookup f23 = some ⟨oc23, od23, .func (PySem.W.fnOf "__init__" "Several.__init__" (defArgs sSInit) (defBody sSInit) (defScope sSInit) .none kV23 dc23 pm23 an23 cd23 ct23), sl23⟩)
    (c23 : PySem.W.codeIn K cd23 "Several.__init__" = true)
    (k23 : PySem.W.keepIn K (.ref f23) = true)
    (a24 : PySem.W.findIn K (.ref CS) "_is_row" = some (some (.ref f24)))
    (i24 : PySem.W.isFn K (.ref f24) = true)
    (l24 : K.lookup f24 = some ⟨oc24, od24, .func (PySem.W.fnOf "_is_row" "Several._is_row" (defArgs sSIsRow) (defBody sSIsRow) (defScope sSIsRow) .none kV24 dc24 pm24 an24 cd24 ct24), sl24⟩)
    (c24 : PySem.W.codeIn K cd24 "Several._is_row" = true)
    (k24 : PySem.W.keepIn K (.ref f24) = true)
    (a25 : PySem.W.findIn K (.ref CS) "step" = some (some (.ref f25)))
    (i25 : PySem.W.isFn K (.ref f25) = true)
    (l25 : K.lookup f25 = some ⟨oc25, od25, .func (PySem.W.fnOf "step" "Several.step" (defArgs sStep) (defBody sStep) (defScope sStep) .none kV25 dc25 pm25 an25 cd25 ct25), sl25⟩)
    (c25 : PySem.W.codeIn K cd25 "Several.step" = true)
    (k25 : PySem.W.keepIn K (.ref f25) = true)
    (a26 : PySem.W.findIn K (.ref CS) "stopped" = some (some (.ref f26)))
    (i26 : PySem.W.isFn K (.ref f26) = true)
    (l26 : K.lookup f26 = some ⟨oc26, od26, .func (PySem.W.fnOf "stopped" "Several.stopped" (defArgs sStopped) (defBody sStopped) (defScope sStopped) .none kV26 dc26 pm26 an26 cd26 ct26), sl26⟩)
    (c26 : PySem.W.codeIn K cd26 "Several.stopped" = true)
    (k26 : PySem.W.keepIn K (.ref f26) = true)
    (a27 : PySem.W.findIn K (.ref CS) "run" = some (some (.ref f27)))
    (i27 : PySem.W.isFn K (.ref f27) = true)
    (l27 : K.lookup f27 = some ⟨oc27, od27, .func (PySem.W.fnOf "run" "Several.run" (defArgs sSRun) (defBody sSRun) (defScope sSRun) .none kV27 dc27 pm27 an27 cd27 ct27), sl27⟩)
    (c27 : PySem.W.codeIn K cd27 "Several.run" = true)
    (k27 : PySem.W.keepIn K (.ref f27) = true)
    (a28 : PySem.W.findIn K (.ref CS) "back" = some (some (.ref f28)))
    (i28 : PySem.W.isFn K (.ref f28) = true)
    (l28 : K.lookup f28 = some ⟨oc28, od28, .func (PySem.W.fnOf "back" "Several.back" (defArgs sBack) (defBody sBack) (defScope sBack) .none kV28 dc28 pm28 an28 cd28 ct28), sl28⟩)
    (c28 : PySem.W.codeIn K cd28 "Several.back" = true)
    (k28 : PySem.W.keepIn K (.ref f28) = true)
    (a29 : PySem.W.findIn K (.ref CS) "run_back" = some (some (.ref f29)))
    (i29 : PySem.W.isFn K (.ref f29) = true)
    (l29 : K.lookup f29 = some ⟨oc29, od29, .func (PySem.W.fnOf "run_back" "Several.run_back" (defArgs sRunBack) (defBody sRunBack) (defScope sRunBack) .none kV29 dc29 pm29 an29 cd29 ct29), sl29⟩)
    (c29 : PySem.W.codeIn K cd29 "Several.run_back" = true)
    (k29 : PySem.W.keepIn K (.ref f29) = true)
    (a30 : PySem.W.findIn K (.ref CS) "_check_back" = some (some (.ref f30)))
    (i30 : PySem.W.isFn K (.ref f30) = true)
    (l30 : K.lookup f30 = some ⟨oc30, od30, .func (PySem.W.fnOf "_check_back" "Several._check_back" (defArgs sCheck) (defBody sCheck) (defScope sCheck) .none kV30 dc30 pm30 an30 cd30 ct30), sl30⟩)
    (c30 : PySem.W.codeIn K cd30 "Several._check_back" = true)
    (k30 : PySem.W.keepIn K (.ref f30) = true)
    (aCH : PySem.W.nsIn K mainGlobals "History" = some (some (.ref CH)))
    (pgCH : PySem.W.plainGet K CH Str.empty = true)
    (hdCH : PySem.W.hasDictIn K CH = true)
    (poCH : PySem.W.plainOver K CH = true)
    (saCH : PySem.W.findIn K (.ref CH) "__setattr__" = some (some (.builtin "object.__setattr__")))
    (mkCH : PySem.W.makesIn K CH = true)
    (kcCH : PySem.W.keepIn K (.ref CH) = true)
    (a31 : PySem.W.findIn K (.ref CH) "__init__" = some (some (.ref f31)))
    (i31 : PySem.W.isFn K (.ref f31) = true)
    (l31 : K.lookup f31 = some ⟨oc31, od31, .func (PySem.W.fnOf "__init__" "History.__init__" (defArgs sHInit) (defBody sHInit) (defScope sHInit) .none kV31 dc31 pm31 an31 cd31 ct31), sl31⟩)
    (c31 : PySem.W.codeIn K cd31 "History.__init__" = true)
    (k31 : PySem.W.keepIn K (.ref f31) = true)
    (a32 : PySem.W.findIn K (.ref CH) "_rows" = some (some (.ref f32)))
    (i32 : PySem.W.isFn K (.ref f32) = true)
    (l32 : K.lookup f32 = some ⟨oc32, od32, .func (PySem.W.fnOf "_rows" "History._rows" (defArgs sRows) (defBody sRows) (defScope sRows) .none kV32 dc32 pm32 an32 cd32 ct32), sl32⟩)
    (c32 : PySem.W.codeIn K cd32 "History._rows" = true)
    (k32 : PySem.W.keepIn K (.ref f32) = true)
    (a33 : PySem.W.findIn K (.ref CH) "down" = some (some (.ref f33)))
    (i33 : PySem.W.isFn K (.ref f33) = true)
    (l33 : K.lookup f33 = some ⟨oc33, od33, .func (PySem.W.fnOf "down" "History.down" (defArgs sDown) (defBody sDown) (defScope sDown) .none kV33 dc33 pm33 an33 cd33 ct33), sl33⟩)
    (c33 : PySem.W.codeIn K cd33 "History.down" = true)
    (k33 : PySem.W.keepIn K (.ref f33) = true)
    (a34 : PySem.W.findIn K (.ref CH) "up" = some (some (.ref f34)))
    (i34 : PySem.W.isFn K (.ref f34) = true)
    (l34 : K.lookup f34 = some ⟨oc34, od34, .func (PySem.W.fnOf "up" "History.up" (defArgs sUp) (defBody sUp) (defScope sUp) .none kV34 dc34 pm34 an34 cd34 ct34), sl34⟩)
    (c34 : PySem.W.codeIn K cd34 "History.up" = true)
    (k34 : PySem.W.keepIn K (.ref f34) = true)
    (z_isinstance : PySem.W.nsIn K mainGlobals "isinstance" = some none)
    (z_int : PySem.W.nsIn K mainGlobals "int" = some none)
    (z_bool : PySem.W.nsIn K mainGlobals "bool" = some none)
    (z_len : PySem.W.nsIn K mainGlobals "len" = some none)
    (z_tuple : PySem.W.nsIn K mainGlobals "tuple" = some none)
    (z_list : PySem.W.nsIn K mainGlobals "list" = some none)
    (z_all : PySem.W.nsIn K mainGlobals "all" = some none)
    (z_any : PySem.W.nsIn K mainGlobals "any" = some none)
    (z_enumerate : PySem.W.nsIn K mainGlobals "enumerate" = some none)
    (z_zip : PySem.W.nsIn K mainGlobals "zip" = some none)
    (z_range : PySem.W.nsIn K mainGlobals "range" = some none)
    (z_reversed : PySem.W.nsIn K mainGlobals "reversed" = some none)
    (z_divmod : PySem.W.nsIn K mainGlobals "divmod" = some none)
    (z_abs : PySem.W.nsIn K mainGlobals "abs" = some none)
    (z_mmT : PySem.W.nsIn K mainGlobals "MOST_MARKS_tape" = some (some (.int 8 t_mmT)))
    (z_msT : PySem.W.nsIn K mainGlobals "MOST_STATES_tape" = some (some (.int 40 t_msT)))
    (z_mt : PySem.W.nsIn K mainGlobals "MOST_TAPES" = some (some (.int 4 t_mt)))
    (z_mmS : PySem.W.nsIn K mainGlobals "MOST_MARKS_several" = some (some (.int 400 t_mmS)))
    (z_msS : PySem.W.nsIn K mainGlobals "MOST_STATES_several" = some (some (.int 5000 t_msS)))
    (z_mr : PySem.W.nsIn K mainGlobals "MOST_ROWS" = some (some (.int 20000 t_mr)))
    (n_tMarks : PySem.W.findIn K (.ref CT) "marks" = some none)
    (n_tStates : PySem.W.findIn K (.ref CT) "states" = some none)
    (n_tRows : PySem.W.findIn K (.ref CT) "_rows" = some none)
    (n_sTapes : PySem.W.findIn K (.ref CS) "tapes" = some none)
    (n_sMarks : PySem.W.findIn K (.ref CS) "marks" = some none)
    (n_sStates : PySem.W.findIn K (.ref CS) "states" = some none)
    (n_sRows : PySem.W.findIn K (.ref CS) "_rows" = some none)
    (n_sBack : PySem.W.findIn K (.ref CS) "_back_clash" = some none)
    (n_sBy : PySem.W.findIn K (.ref CS) "_by_state" = some none)
    (n_sNx : PySem.W.findIn K (.ref CS) "_by_next" = some none)
    (n_hUpper : PySem.W.findIn K (.ref CH) "upper" = some none)
    (n_hPairs : PySem.W.findIn K (.ref CH) "_pairs" = some none)
    (n_hLower : PySem.W.findIn K (.ref CH) "lower" = some none)
    (a35 : PySem.W.nsIn K mainGlobals "law" = some (some (.ref f35)))
    (l35 : K.lookup f35 = some ⟨oc35, od35, .func (PySem.W.fnOf "law" "law" (defArgs sLaw) (defBody sLaw) (defScope sLaw) .none kV35 dc35 pm35 an35 cd35 ct35), sl35⟩)
    (c35 : PySem.W.codeIn K cd35 "law" = true)
    (k35 : PySem.W.keepIn K (.ref f35) = true)
    : ∃ fd : FuncData, (∀ (s : Shared) (v : Value), BindsTo s fd ⟨[v], []⟩ [("_law_script", v)]) ∧ ∀ base : Heap, K.In base → base.Ns mainGlobals mg → FnOk l.prog w K mg base CX0 8 fa fd ["_law_script"] (spLaw K) := by
  have e := hfa.symm.trans (PySem.W.mg_of X G a35)
  cases e
  have T : Txt K mg CT CS CH := { isinstance := PySem.W.mg_none_of X G z_isinstance, int := PySem.W.mg_none_of X G z_int, bool := PySem.W.mg_none_of X G z_bool, len := PySem.W.mg_none_of X G z_len, tuple := PySem.W.mg_none_of X G z_tuple, list := PySem.W.mg_none_of X G z_list, all := PySem.W.mg_none_of X G z_all, any := PySem.W.mg_none_of X G z_any, enumerate := PySem.W.mg_none_of X G z_enumerate, zip := PySem.W.mg_none_of X G z_zip, range := PySem.W.mg_none_of X G z_range, reversed := PySem.W.mg_none_of X G z_reversed, divmod := PySem.W.mg_none_of X G z_divmod, abs := PySem.W.mg_none_of X G z_abs, mmT := ⟨t_mmT, PySem.W.mg_of X G z_mmT⟩, msT := ⟨t_msT, PySem.W.mg_of X G z_msT⟩, mt := ⟨t_mt, PySem.W.mg_of X G z_mt⟩, mmS := ⟨t_mmS, PySem.W.mg_of X G z_mmS⟩, msS := ⟨t_msS, PySem.W.mg_of X G z_msS⟩, mr := ⟨t_mr, PySem.W.mg_of X G z_mr⟩, gT := PySem.W.mg_of X G aCT, gS := PySem.W.mg_of X G aCS, gH := PySem.W.mg_of X G aCH, cT := ⟨pgCT, hdCT, poCT, saCT⟩, cS := ⟨pgCS, hdCS, poCS, saCS⟩, cH := ⟨pgCH, hdCH, poCH, saCH⟩, tMarks := n_tMarks, tStates := n_tStates, tRows := n_tRows, sTapes := n_sTapes, sMarks := n_sMarks, sStates := n_sStates, sRows := n_sRows, sBack := n_sBack, sBy := n_sBy, sNx := n_sNx, hUpper := n_hUpper, hPairs := n_hPairs, hLower := n_hLower }
  have D_is_integer : DefF K mg "is_integer" sIsInt ["value", "least", "most"] := ⟨f1, _, PySem.W.mg_of X G a1, ((fun_mk (st := sIsInt) l1 c1 k1).binds (ps := ["value", "least", "most"]) fun _ _ _ _ _ _ us hl => match us, hl with | [_, _, _], _ => rfl), fun_mk (st := sIsInt) l1 c1 k1⟩
  have D_trimmed : DefF K mg "trimmed" sTrim ["marks"] := ⟨f2, _, PySem.W.mg_of X G a2, ((fun_mk (st := sTrim) l2 c2 k2).binds (ps := ["marks"]) fun _ _ _ _ _ _ us hl => match us, hl with | [_], _ => rfl), fun_mk (st := sTrim) l2 c2 k2⟩
  have D_is_number : DefF K mg "is_number" sIsNum ["value", "least", "most"] := ⟨f3, _, PySem.W.mg_of X G a3, ((fun_mk (st := sIsNum) l3 c3 k3).binds (ps := ["value", "least", "most"]) fun _ _ _ _ _ _ us hl => match us, hl with | [_, _, _], _ => rfl), fun_mk (st := sIsNum) l3 c3 k3⟩
  have D_is_tuple : DefF K mg "is_tuple" sIsTup ["value", "count", "least", "most"] := ⟨f4, _, PySem.W.mg_of X G a4, ((fun_mk (st := sIsTup) l4 c4 k4).binds (ps := ["value", "count", "least", "most"]) fun _ _ _ _ _ _ us hl => match us, hl with | [_, _, _, _], _ => rfl), fun_mk (st := sIsTup) l4 c4 k4⟩
  have D_backward : DefF K mg "backward" sBackward ["row"] := ⟨f5, _, PySem.W.mg_of X G a5, ((fun_mk (st := sBackward) l5 c5 k5).binds (ps := ["row"]) fun _ _ _ _ _ _ us hl => match us, hl with | [_], _ => rfl), fun_mk (st := sBackward) l5 c5 k5⟩
  have D_first_clash : DefF K mg "first_clash" sFirst ["rows"] := ⟨f6, _, PySem.W.mg_of X G a6, ((fun_mk (st := sFirst) l6 c6 k6).binds (ps := ["rows"]) fun _ _ _ _ _ _ us hl => match us, hl with | [_], _ => rfl), fun_mk (st := sFirst) l6 c6 k6⟩
  have D_clash_among : DefF K mg "_clash_among" sClash ["rows", "indexes"] := ⟨f7, _, PySem.W.mg_of X G a7, ((fun_mk (st := sClash) l7 c7 k7).binds (ps := ["rows", "indexes"]) fun _ _ _ _ _ _ us hl => match us, hl with | [_, _], _ => rfl), fun_mk (st := sClash) l7 c7 k7⟩
  have D_table_of : DefF K mg "_table_of" sTable ["rows"] := ⟨f8, _, PySem.W.mg_of X G a8, ((fun_mk (st := sTable) l8 c8 k8).binds (ps := ["rows"]) fun _ _ _ _ _ _ us hl => match us, hl with | [_], _ => rfl), fun_mk (st := sTable) l8 c8 k8⟩
  have D_moved_tape : DefF K mg "moved_tape" sMoved ["tape", "move"] := ⟨f9, _, PySem.W.mg_of X G a9, ((fun_mk (st := sMoved) l9 c9 k9).binds (ps := ["tape", "move"]) fun _ _ _ _ _ _ us hl => match us, hl with | [_, _], _ => rfl), fun_mk (st := sMoved) l9 c9 k9⟩
  have D_taken : DefF K mg "_taken" sTaken ["table", "configuration"] := ⟨f10, _, PySem.W.mg_of X G a10, ((fun_mk (st := sTaken) l10 c10 k10).binds (ps := ["table", "configuration"]) fun _ _ _ _ _ _ us hl => match us, hl with | [_, _], _ => rfl), fun_mk (st := sTaken) l10 c10 k10⟩
  have D_run : DefF K mg "_run" sRun ["table", "configuration", "steps"] := ⟨f11, _, PySem.W.mg_of X G a11, ((fun_mk (st := sRun) l11 c11 k11).binds (ps := ["table", "configuration", "steps"]) fun _ _ _ _ _ _ us hl => match us, hl with | [_, _, _], _ => rfl), fun_mk (st := sRun) l11 c11 k11⟩
  have D_pairs_of : DefF K mg "pairs_of" sPairs ["machine"] := ⟨f12, _, PySem.W.mg_of X G a12, ((fun_mk (st := sPairs) l12 c12 k12).binds (ps := ["machine"]) fun _ _ _ _ _ _ us hl => match us, hl with | [_], _ => rfl), fun_mk (st := sPairs) l12 c12 k12⟩
  have D_law_draws : DefF K mg "_law_draws" sLDraws ["_law_script", "_law_many"] := ⟨f13, _, PySem.W.mg_of X G a13, ((fun_mk (st := sLDraws) l13 c13 k13).binds (ps := ["_law_script", "_law_many"]) fun _ _ _ _ _ _ us hl => match us, hl with | [_, _], _ => rfl), fun_mk (st := sLDraws) l13 c13 k13⟩
  have D_law_machine : DefF K mg "_law_machine" sLMach ["_law_draws_here", "_law_marks", "_law_states"] := ⟨f14, _, PySem.W.mg_of X G a14, ((fun_mk (st := sLMach) l14 c14 k14).binds (ps := ["_law_draws_here", "_law_marks", "_law_states"]) fun _ _ _ _ _ _ us hl => match us, hl with | [_, _, _], _ => rfl), fun_mk (st := sLMach) l14 c14 k14⟩
  have D_law_trimmed : DefF K mg "_law_trimmed" sLTrim ["_law_marks"] := ⟨f15, _, PySem.W.mg_of X G a15, ((fun_mk (st := sLTrim) l15 c15 k15).binds (ps := ["_law_marks"]) fun _ _ _ _ _ _ us hl => match us, hl with | [_], _ => rfl), fun_mk (st := sLTrim) l15 c15 k15⟩
  have D_law_configuration : DefF K mg "_law_configuration" sLConf ["_law_draws_here", "_law_marks", "_law_states", "_law_most"] := ⟨f16, _, PySem.W.mg_of X G a16, ((fun_mk (st := sLConf) l16 c16 k16).binds (ps := ["_law_draws_here", "_law_marks", "_law_states", "_law_most"]) fun _ _ _ _ _ _ us hl => match us, hl with | [_, _, _, _], _ => rfl), fun_mk (st := sLConf) l16 c16 k16⟩
  have D_law_step : DefF K mg "_law_step" sLStep ["_law_rows", "_law_marks", "_law_configuration_here"] := ⟨f17, _, PySem.W.mg_of X G a17, ((fun_mk (st := sLStep) l17 c17 k17).binds (ps := ["_law_rows", "_law_marks", "_law_configuration_here"]) fun _ _ _ _ _ _ us hl => match us, hl with | [_, _, _], _ => rfl), fun_mk (st := sLStep) l17 c17 k17⟩
  have D_CT_init : DefI K CT "Tape.__init__" sTInit ["self", "marks", "states", "rows"] := ⟨f18, _, ⟨mkCT, a18, i18, kcCT⟩, ((fun_mk (st := sTInit) l18 c18 k18).binds (ps := ["self", "marks", "states", "rows"]) fun _ _ _ _ _ _ us hl => match us, hl with | [_, _, _, _], _ => rfl), fun_mk (st := sTInit) l18 c18 k18⟩
  have D_CT_is_row : DefM K CT "_is_row" "Tape._is_row" sTIsRow ["self", "row"] := ⟨f19, _, ⟨a19, i19, k19⟩, ((fun_mk (st := sTIsRow) l19 c19 k19).binds (ps := ["self", "row"]) fun _ _ _ _ _ _ us hl => match us, hl with | [_, _], _ => rfl), fun_mk (st := sTIsRow) l19 c19 k19⟩
  have D_CT_row : DefM K CT "row" "Tape.row" sTRow ["self", "state", "mark"] := ⟨f20, _, ⟨a20, i20, k20⟩, ((fun_mk (st := sTRow) l20 c20 k20).binds (ps := ["self", "state", "mark"]) fun _ _ _ _ _ _ us hl => match us, hl with | [_, _, _], _ => rfl), fun_mk (st := sTRow) l20 c20 k20⟩
  have D_CT_is_side : DefM K CT "_is_side" "Tape._is_side" sTSide ["self", "value"] := ⟨f21, _, ⟨a21, i21, k21⟩, ((fun_mk (st := sTSide) l21 c21 k21).binds (ps := ["self", "value"]) fun _ _ _ _ _ _ us hl => match us, hl with | [_, _], _ => rfl), fun_mk (st := sTSide) l21 c21 k21⟩
  have D_CT_is_configuration : DefM K CT "is_configuration" "Tape.is_configuration" sTConf ["self", "value"] := ⟨f22, _, ⟨a22, i22, k22⟩, ((fun_mk (st := sTConf) l22 c22 k22).binds (ps := ["self", "value"]) fun _ _ _ _ _ _ us hl => match us, hl with | [_, _], _ => rfl), fun_mk (st := sTConf) l22 c22 k22⟩
  have D_CS_init : DefI K CS "Several.__init__" sSInit ["self", "tapes", "marks", "states", "rows"] := ⟨f23, _, ⟨mkCS, a23, i23, kcCS⟩, ((fun_mk (st := sSInit) l23 c23 k23).binds (ps := ["self", "tapes", "marks", "states", "rows"]) fun _ _ _ _ _ _ us hl => match us, hl with | [_, _, _, _, _], _ => rfl), fun_mk (st := sSInit) l23 c23 k23⟩
  have D_CS_is_row : DefM K CS "_is_row" "Several._is_row" sSIsRow ["self", "row"] := ⟨f24, _, ⟨a24, i24, k24⟩, ((fun_mk (st := sSIsRow) l24 c24 k24).binds (ps := ["self", "row"]) fun _ _ _ _ _ _ us hl => match us, hl with | [_, _], _ => rfl), fun_mk (st := sSIsRow) l24 c24 k24⟩
  have D_CS_step : DefM K CS "step" "Several.step" sStep ["self", "configuration"] := ⟨f25, _, ⟨a25, i25, k25⟩, ((fun_mk (st := sStep) l25 c25 k25).binds (ps := ["self", "configuration"]) fun _ _ _ _ _ _ us hl => match us, hl with | [_, _], _ => rfl), fun_mk (st := sStep) l25 c25 k25⟩
  have D_CS_stopped : DefM K CS "stopped" "Several.stopped" sStopped ["self", "configuration"] := ⟨f26, _, ⟨a26, i26, k26⟩, ((fun_mk (st := sStopped) l26 c26 k26).binds (ps := ["self", "configuration"]) fun _ _ _ _ _ _ us hl => match us, hl with | [_, _], _ => rfl), fun_mk (st := sStopped) l26 c26 k26⟩
  have D_CS_run : DefM K CS "run" "Several.run" sSRun ["self", "configuration", "steps"] := ⟨f27, _, ⟨a27, i27, k27⟩, ((fun_mk (st := sSRun) l27 c27 k27).binds (ps := ["self", "configuration", "steps"]) fun _ _ _ _ _ _ us hl => match us, hl with | [_, _, _], _ => rfl), fun_mk (st := sSRun) l27 c27 k27⟩
  have D_CS_back : DefM K CS "back" "Several.back" sBack ["self", "configuration"] := ⟨f28, _, ⟨a28, i28, k28⟩, ((fun_mk (st := sBack) l28 c28 k28).binds (ps := ["self", "configuration"]) fun _ _ _ _ _ _ us hl => match us, hl with | [_, _], _ => rfl), fun_mk (st := sBack) l28 c28 k28⟩
  have D_CS_run_back : DefM K CS "run_back" "Several.run_back" sRunBack ["self", "configuration", "steps"] := ⟨f29, _, ⟨a29, i29, k29⟩, ((fun_mk (st := sRunBack) l29 c29 k29).binds (ps := ["self", "configuration", "steps"]) fun _ _ _ _ _ _ us hl => match us, hl with | [_, _, _], _ => rfl), fun_mk (st := sRunBack) l29 c29 k29⟩
  have D_CS_check_back : DefM K CS "_check_back" "Several._check_back" sCheck ["self"] := ⟨f30, _, ⟨a30, i30, k30⟩, ((fun_mk (st := sCheck) l30 c30 k30).binds (ps := ["self"]) fun _ _ _ _ _ _ us hl => match us, hl with | [_], _ => rfl), fun_mk (st := sCheck) l30 c30 k30⟩
  have D_CH_init : DefI K CH "History.__init__" sHInit ["self", "machine"] := ⟨f31, _, ⟨mkCH, a31, i31, kcCH⟩, ((fun_mk (st := sHInit) l31 c31 k31).binds (ps := ["self", "machine"]) fun _ _ _ _ _ _ us hl => match us, hl with | [_, _], _ => rfl), fun_mk (st := sHInit) l31 c31 k31⟩
  have D_CH_rows : DefM K CH "_rows" "History._rows" sRows ["self"] := ⟨f32, _, ⟨a32, i32, k32⟩, ((fun_mk (st := sRows) l32 c32 k32).binds (ps := ["self"]) fun _ _ _ _ _ _ us hl => match us, hl with | [_], _ => rfl), fun_mk (st := sRows) l32 c32 k32⟩
  have D_CH_down : DefM K CH "down" "History.down" sDown ["self", "configuration", "past"] := ⟨f33, _, ⟨a33, i33, k33⟩, ((fun_mk (st := sDown) l33 c33 k33).binds (ps := ["self", "configuration", "past"]) fun _ _ _ _ _ _ us hl => match us, hl with | [_, _, _], _ => rfl), fun_mk (st := sDown) l33 c33 k33⟩
  have D_CH_up : DefM K CH "up" "History.up" sUp ["self", "configuration"] := ⟨f34, _, ⟨a34, i34, k34⟩, ((fun_mk (st := sUp) l34 c34 k34).binds (ps := ["self", "configuration"]) fun _ _ _ _ _ _ us hl => match us, hl with | [_, _], _ => rfl), fun_mk (st := sUp) l34 c34 k34⟩
  refine ⟨PySem.W.fnOf "law" "law" (defArgs sLaw) (defBody sLaw) (defScope sLaw) .none kV35 dc35 pm35 an35 cd35 ct35, fun s v => .of_eq rfl, fun base _ _ => ?_⟩
  have isInt := ok_isInt (P := l.prog) (w := w) (base := base) T D_is_integer
  have isNum := ok_isNum (P := l.prog) (w := w) (base := base) T D_is_number
  have trm := ok_trim (P := l.prog) (w := w) (base := base) T D_trimmed
  have isTup := ok_isTup T D_is_tuple isNum
  have bwd := ok_backward (P := l.prog) (w := w) (base := base) T D_backward
  have mvd := ok_moved T D_moved_tape trm
  have tIsRow := ok_tIsRow T D_CT_is_row isInt
  have tInit := ok_tInit T D_CT_init isInt tIsRow
  have tRow := ok_tRow T D_CT_row isInt
  have tSide := ok_tSide T D_CT_is_side isInt trm
  have tConf := ok_tConf T D_CT_is_configuration isInt tSide
  have sIsRow := ok_sIsRow T D_CS_is_row isNum isTup
  have clash := ok_clash (P := l.prog) (w := w) (base := base) T D_clash_among
  have first := ok_first T D_first_clash clash
  have table := ok_table (P := l.prog) (w := w) (base := base) T D_table_of
  have sInit := ok_sInit T D_CS_init isNum sIsRow first bwd table
  have taken := ok_taken T D_taken mvd
  have run := ok_run T D_run taken
  have step := ok_step T D_CS_step taken
  have check := ok_check (P := l.prog) (w := w) (base := base) T D_CS_check_back
  have pairs := ok_pairs T D_pairs_of tRow
  have rows := ok_rows T D_CH_rows pairs
  have lTrim := ok_lTrim (P := l.prog) (w := w) (base := base) T D_law_trimmed
  refine ok_law (fun_mk (st := sLaw) l35 c35 k35) T
    { draws := ok_lDraws T D_law_draws, mach := ok_lMach T D_law_machine, tape := tInit, his := ok_hInit T D_CH_init rows sInit, conf := ok_lConf T D_law_configuration lTrim, lstep := ok_lStep T D_law_step lTrim,
      down := ok_down T D_CH_down, up := ok_up T D_CH_up tConf, step := step, stopped := ok_stopped T D_CS_stopped step, back := ok_back T D_CS_back taken check, run := ok_sRun T D_CS_run run, runBack := ok_runBack T D_CS_run_back run check }
theorem walk {l : PySem.W.OpenLaw} {q : Program} {loose : List Str} {XP : (Str → Option Value) → Heap → Prop} {YP : World → Heap → Prop} {d : DefRec} {K : Params → PySem.W.Frag} (hn : l.most = some 63) (hdf : d.params.defaults = [])
    (hY : ∀ (w : World) (h : Heap), YP w h → (K w.params).In h)
    (F : ∀ (w : World) (mg : Str → Option Value) (fa : Addr) (h : Heap), (K w.params).In h → h.Ns mainGlobals mg → mg d.name = some (.ref fa) →
      ∃ fd : FuncData, (∀ (s : Shared) (u : Value), BindsTo s fd ⟨[u], []⟩ [("_law_script", u)]) ∧ ∀ base : Heap, (K w.params).In base → base.Ns mainGlobals mg → FnOk l.prog w (K w.params) mg base CX0 8 fa fd ["_law_script"] (spLaw (K w.params))) :
    PySem.W.WalkO q loose XP YP l.row.toRowW d [] (fun f vs => PySem.call f vs) :=
  L2.walk_of (n := 63) (k := 8) (x := "_law_script") (CX := fun _ => CX0) (sp := fun w => spLaw (K w.params)) hn (by decide) hdf ⟨rfl, by decide, by decide⟩ hY F (fun _ _ a ns hl _ hS => ⟨a, ns, rfl, hS, hl, fun _ => rfl⟩) fun _ _ _ _ _ z => z
end Bs
open PySem PySem.W PyProof.Rows in
set_option maxRecDepth 100000 in
set_option maxHeartbeats 0 in
theorem PySem.Challenge.cw_backstair_k22_whole_steps_with_notes_holds : PySem.Challenge.rw_backstair_k22_whole_steps_with_notes.Holds := by
  w_on; o_law; k_head; (case hw => w_witness2)
  k_fill
  refine Bs.walk (l := PySem.Challenge.rw_backstair_k22_whole_steps_with_notes) rfl rfl (fun w h Y => PySem.W.kIn_of Y) ?F
  case F =>
    intro w mg fa h KX G hmg
    refine' Bs.all_mk KX G hmg ?a1 ?l1 ?c1 ?k1 ?a2 ?l2 ?c2 ?k2 ?a3 ?l3 ?c3 ?k3 ?a4 ?l4 ?c4 ?k4 ?a5 ?l5 ?c5 ?k5 ?a6 ?l6 ?c6 ?k6 ?a7 ?l7 ?c7 ?k7 ?a8 ?l8 ?c8 ?k8 ?a9 ?l9 ?c9 ?k9 ?a10 ?l10 ?c10 ?k10 ?a11 ?l11 ?c11 ?k11 ?a12 ?l12 ?c12 ?k12 ?a13 ?l13 ?c13 ?k13 ?a14 ?l14 ?c14 ?k14 ?a15 ?l15 ?c15 ?k15 ?a16 ?l16 ?c16 ?k16 ?a17 ?l17 ?c17 ?k17 ?aCT ?pgCT ?hdCT ?poCT ?saCT ?mkCT ?kcCT ?a18 ?i18 ?l18 ?c18 ?k18 ?a19 ?i19 ?l19 ?c19 ?k19 ?a20 ?i20 ?l20 ?c20 ?k20 ?a21 ?i21 ?l21 ?c21 ?k21 ?a22 ?i22 ?l22 ?c22 ?k22 ?aCS ?pgCS ?hdCS ?poCS ?saCS ?mkCS ?kcCS ?a23 ?i23 ?l23 ?c23 ?k23 ?a24 ?i24 ?l24 ?c24 ?k24 ?a25 ?i25 ?l25 ?c25 ?k25 ?a26 ?i26 ?l26 ?c26 ?k26 ?a27 ?i27 ?l27 ?c27 ?k27 ?a28 ?i28 ?l28 ?c28 ?k28 ?a29 ?i29 ?l29 ?c29 ?k29 ?a30 ?i30 ?l30 ?c30 ?k30 ?aCH ?pgCH ?hdCH ?poCH ?saCH ?mkCH ?kcCH ?a31 ?i31 ?l31 ?c31 ?k31 ?a32 ?i32 ?l32 ?c32 ?k32 ?a33 ?i33 ?l33 ?c33 ?k33 ?a34 ?i34 ?l34 ?c34 ?k34 ?z_isinstance ?z_int ?z_bool ?z_len ?z_tuple ?z_list ?z_all ?z_any ?z_enumerate ?z_zip ?z_range ?z_reversed ?z_divmod ?z_abs ?z_mmT ?z_msT ?z_mt ?z_mmS ?z_msS ?z_mr ?n_tMarks ?n_tStates ?n_tRows ?n_sTapes ?n_sMarks ?n_sStates ?n_sRows ?n_sBack ?n_sBy ?n_sNx ?n_hUpper ?n_hPairs ?n_hLower ?a35 ?l35 ?c35 ?k35
    (case a1 => k_is)
    (case l1 => k_is)
    (case c1 => k_is)
    (case k1 => k_is)
    (case a2 => k_is)
    (case l2 => k_is)
    (case c2 => k_is)
    (case k2 => k_is)
    (case a3 => k_is)
    (case l3 => k_is)
    (case c3 => k_is)
    (case k3 => k_is)
    (case a4 => k_is)
    (case l4 => k_is)
    (case c4 => k_is)
    (case k4 => k_is)
    (case a5 => k_is)
    (case l5 => k_is)
    (case c5 => k_is)
    (case k5 => k_is)
    (case a6 => k_is)
    (case l6 => k_is)
    (case c6 => k_is)
    (case k6 => k_is)
    (case a7 => k_is)
    (case l7 => k_is)
    (case c7 => k_is)
    (case k7 => k_is)
    (case a8 => k_is)
    (case l8 => k_is)
    (case c8 => k_is)
    (case k8 => k_is)
    (case a9 => k_is)
    (case l9 => k_is)
    (case c9 => k_is)
    (case k9 => k_is)
    (case a10 => k_is)
    (case l10 => k_is)
    (case c10 => k_is)
    (case k10 => k_is)
    (case a11 => k_is)
    (case l11 => k_is)
    (case c11 => k_is)
    (case k11 => k_is)
    (case a12 => k_is)
    (case l12 => k_is)
    (case c12 => k_is)
    (case k12 => k_is)
    (case a13 => k_is)
    (case l13 => k_is)
    (case c13 => k_is)
    (case k13 => k_is)
    (case a14 => k_is)
    (case l14 => k_is)
    (case c14 => k_is)
    (case k14 => k_is)
    (case a15 => k_is)
    (case l15 => k_is)
    (case c15 => k_is)
    (case k15 => k_is)
    (case a16 => k_is)
    (case l16 => k_is)
    (case c16 => k_is)
    (case k16 => k_is)
    (case a17 => k_is)
    (case l17 => k_is)
    (case c17 => k_is)
    (case k17 => k_is)
    (case aCT => k_is)
    (case pgCT => k_is)
    (case hdCT => k_is)
    (case poCT => k_is)
    (case saCT => k_is)
    (case mkCT => k_is)
    (case kcCT => k_is)
    (case a18 => k_is)
    (case i18 => k_is)
    (case l18 => k_is)
    (case c18 => k_is)
    (case k18 => k_is)
    (case a19 => k_is)
    (case i19 => k_is)
    (case l19 => k_is)
    (case c19 => k_is)
    (case k19 => k_is)
    (case a20 => k_is)
    (case i20 => k_is)
    (case l20 => k_is)
    (case c20 => k_is)
    (case k20 => k_is)
    (case a21 => k_is)
    (case i21 => k_is)
    (case l21 => k_is)
    (case c21 => k_is)
    (case k21 => k_is)
    (case a22 => k_is)
    (case i22 => k_is)
    (case l22 => k_is)
    (case c22 => k_is)
    (case k22 => k_is)
    (case aCS => k_is)
    (case pgCS => k_is)
    (case hdCS => k_is)
    (case poCS => k_is)
    (case saCS => k_is)
    (case mkCS => k_is)
    (case kcCS => k_is)
    (case a23 => k_is)
    (case i23 => k_is)
    (case l23 => k_is)
    (case c23 => k_is)
    (case k23 => k_is)
    (case a24 => k_is)
    (case i24 => k_is)
    (case l24 => k_is)
    (case c24 => k_is)
    (case k24 => k_is)
    (case a25 => k_is)
    (case i25 => k_is)
    (case l25 => k_is)
    (case c25 => k_is)
    (case k25 => k_is)
    (case a26 => k_is)
    (case i26 => k_is)
    (case l26 => k_is)
    (case c26 => k_is)
    (case k26 => k_is)
    (case a27 => k_is)
    (case i27 => k_is)
    (case l27 => k_is)
    (case c27 => k_is)
    (case k27 => k_is)
    (case a28 => k_is)
    (case i28 => k_is)
    (case l28 => k_is)
    (case c28 => k_is)
    (case k28 => k_is)
    (case a29 => k_is)
    (case i29 => k_is)
    (case l29 => k_is)
    (case c29 => k_is)
    (case k29 => k_is)
    (case a30 => k_is)
    (case i30 => k_is)
    (case l30 => k_is)
    (case c30 => k_is)
    (case k30 => k_is)
    (case aCH => k_is)
    (case pgCH => k_is)
    (case hdCH => k_is)
    (case poCH => k_is)
    (case saCH => k_is)
    (case mkCH => k_is)
    (case kcCH => k_is)
    (case a31 => k_is)
    (case i31 => k_is)
    (case l31 => k_is)
    (case c31 => k_is)
    (case k31 => k_is)
    (case a32 => k_is)
    (case i32 => k_is)
    (case l32 => k_is)
    (case c32 => k_is)
    (case k32 => k_is)
    (case a33 => k_is)
    (case i33 => k_is)
    (case l33 => k_is)
    (case c33 => k_is)
    (case k33 => k_is)
    (case a34 => k_is)
    (case i34 => k_is)
    (case l34 => k_is)
    (case c34 => k_is)
    (case k34 => k_is)
    (case z_isinstance => k_is)
    (case z_int => k_is)
    (case z_bool => k_is)
    (case z_len => k_is)
    (case z_tuple => k_is)
    (case z_list => k_is)
    (case z_all => k_is)
    (case z_any => k_is)
    (case z_enumerate => k_is)
    (case z_zip => k_is)
    (case z_range => k_is)
    (case z_reversed => k_is)
    (case z_divmod => k_is)
    (case z_abs => k_is)
    (case z_mmT => k_is)
    (case z_msT => k_is)
    (case z_mt => k_is)
    (case z_mmS => k_is)
    (case z_msS => k_is)
    (case z_mr => k_is)
    (case n_tMarks => k_is)
    (case n_tStates => k_is)
    (case n_tRows => k_is)
    (case n_sTapes => k_is)
    (case n_sMarks => k_is)
    (case n_sStates => k_is)
    (case n_sRows => k_is)
    (case n_sBack => k_is)
    (case n_sBy => k_is)
    (case n_sNx => k_is)
    (case n_hUpper => k_is)
    (case n_hPairs => k_is)
    (case n_hLower => k_is)
    (case a35 => k_is)
    (case l35 => k_is)
    (case c35 => k_is)
    (case k35 => k_is)
