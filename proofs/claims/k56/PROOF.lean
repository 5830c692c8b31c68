import PyProof.Rows.All
import Wide.All
import OpenK.AllK
import Wide.FinOn
import HandS.ForMost
import HandS.Walk
import HandS.TupSets
import HandS.TupAny
import HandS.IsInst
import HandS.Deep
import HandS.More
import HandS.Wide
import KE.GoesEnum
import KE.DataMinMax
import PyProof.ReprRoads
import HandS.Strs
import HandS.Conv
import PySem.Challenge.RW_smallchange_k56_whole_prices_bound_ratio
section
set_option Elab.async false
set_option linter.all false
/-! The plain law: offers, trails along best steps, walks; no program in sight. -/
namespace Sm
structure Off where
  a : Int
  x : Int
  b : Int
  y : Int
  deriving DecidableEq
def off0 : Off := ⟨0, 1, 0, 0⟩
def off (os : List Off) (i : Nat) : Off := os.getD i off0
def src (os : List Off) (i : Nat) : Int := (off os i).a
def dst (os : List Off) (i : Nat) : Int := (off os i).b
/-- i is an offer that gives something -/
def Giv (os : List Off) (i : Nat) : Prop := i < os.length ∧ 0 < (off os i).y
/-- ratio of i at least that of j -/
def rge (os : List Off) (i j : Nat) : Prop := (off os j).y * (off os i).x ≤ (off os i).y * (off os j).x
def rgt (os : List Off) (i j : Nat) : Prop := (off os j).y * (off os i).x < (off os i).y * (off os j).x
/-- j stands beside i: same kinds -/
def Beside (os : List Off) (i j : Nat) : Prop := Giv os j ∧ src os j = src os i ∧ dst os j = dst os i
/-- i is the first one with the best ratio among those beside it below n -/
def BestTo (os : List Off) (n i : Nat) : Prop := Giv os i ∧ i < n ∧ ∀ j, j < n → Beside os i j → rge os i j ∧ (j < i → rgt os i j)
def Best (os : List Off) (i : Nat) : Prop := BestTo os os.length i
structure OsOk (k : Int) (os : List Off) : Prop where
  k2 : 2 ≤ k
  k4 : k ≤ 4
  len : os.length ≤ 16
  each : ∀ i, i < os.length → 0 ≤ (off os i).a ∧ (off os i).a < k ∧ 0 ≤ (off os i).b ∧ (off os i).b < k ∧ 1 ≤ (off os i).x ∧ (off os i).x ≤ 30 ∧ 0 ≤ (off os i).y ∧ (off os i).y ≤ 30
theorem off_get {os : List Off} {i : Nat} {o : Off} (h : os[i]? = some o) : off os i = o := by
  unfold off
  rw [List.getD_eq_getElem?_getD, h]
  rfl
theorem off_some {os : List Off} {i : Nat} (h : i < os.length) : os[i]? = some (off os i) := by
  unfold off
  rw [List.getD_eq_getElem?_getD, List.getElem?_eq_getElem h]
  rfl

/-! ### comparing fractions -/
theorem le_trans3 {n1 d1 n2 d2 n3 d3 : Int} (h1 : 0 < d1) (h2 : 0 < d2) (h3 : 0 < d3) (a : n1 * d2 ≤ n2 * d1) (b : n2 * d3 ≤ n3 * d2) : n1 * d3 ≤ n3 * d1 := by
  have e1 := Int.mul_le_mul_of_nonneg_right a (Int.le_of_lt h3)
  have e2 := Int.mul_le_mul_of_nonneg_right b (Int.le_of_lt h1)
  refine Int.le_of_mul_le_mul_right (a := d2) ?_ h2
  grind
theorem lt_trans3 {n1 d1 n2 d2 n3 d3 : Int} (h1 : 0 < d1) (h2 : 0 < d2) (h3 : 0 < d3) (a : n1 * d2 < n2 * d1) (b : n2 * d3 ≤ n3 * d2) : n1 * d3 < n3 * d1 := by
  have e1 := Int.mul_lt_mul_of_pos_right a h3
  have e2 := Int.mul_le_mul_of_nonneg_right b (Int.le_of_lt h1)
  refine Int.lt_of_mul_lt_mul_right (a := d2) ?_ (Int.le_of_lt h2)
  grind
theorem lt_trans3' {n1 d1 n2 d2 n3 d3 : Int} (h1 : 0 < d1) (h2 : 0 < d2) (h3 : 0 < d3) (a : n1 * d2 ≤ n2 * d1) (b : n2 * d3 < n3 * d2) : n1 * d3 < n3 * d1 := by
  have e1 := Int.mul_le_mul_of_nonneg_right a (Int.le_of_lt h3)
  have e2 := Int.mul_lt_mul_of_pos_right b h1
  refine Int.lt_of_mul_lt_mul_right (a := d2) ?_ (Int.le_of_lt h2)
  grind

section
variable {k : Int} {os : List Off}
theorem OsOk.x (h : OsOk k os) (i : Nat) : 0 < (off os i).x := by
  by_cases hi : i < os.length
  · have := h.each i hi
    omega
  · unfold off
    rw [List.getD_eq_getElem?_getD, List.getElem?_eq_none (by omega)]
    decide
theorem rge.trans (h : OsOk k os) {i j l : Nat} (a : rge os i j) (b : rge os j l) : rge os i l := by
  unfold rge at *
  exact le_trans3 (h.x l) (h.x j) (h.x i) b a
theorem Beside.trans {i j l : Nat} (a : Beside os i j) (b : Beside os j l) : Beside os i l := ⟨b.1, b.2.1.trans a.2.1, b.2.2.trans a.2.2⟩
theorem Beside.symm {i j : Nat} (g : Giv os i) (a : Beside os i j) : Beside os j i := ⟨g, a.2.1.symm, a.2.2.symm⟩
theorem Beside.rfl' {i : Nat} (g : Giv os i) : Beside os i i := ⟨g, rfl, rfl⟩
/-- each offer that gives has a best one beside it -/
theorem best_to (h : OsOk k os) : ∀ (n j : Nat), j < n → Giv os j → ∃ i, BestTo os n i ∧ Beside os i j
  | 0, j, hj, _ => absurd hj (Nat.not_lt_zero _)
  | n + 1, j, hj, g => by
    by_cases hjn : j < n
    · obtain ⟨i, ⟨gi, hi, hb⟩, bs⟩ := best_to h n j hjn g
      by_cases hn : Beside os i n
      · by_cases hr : rgt os n i
        · refine ⟨n, ⟨hn.1, Nat.lt_succ_self _, fun l hl bl => ?_⟩, (hn.symm gi).trans bs⟩
          have bil : Beside os i l := hn.trans bl
          rcases Nat.lt_or_ge l n with q | q
          · have r1 := (hb l q bil).1
            have r2 : rgt os n l := by
              unfold rge at r1
              unfold rgt at *
              exact lt_trans3' (h.x l) (h.x i) (h.x n) r1 hr
            exact ⟨Int.le_of_lt r2, fun _ => r2⟩
          · have e : l = n := by omega
            subst e
            exact ⟨Int.le_refl _, fun z => absurd z (Nat.lt_irrefl _)⟩
        · refine ⟨i, ⟨gi, by omega, fun l hl bl => ?_⟩, bs⟩
          rcases Nat.lt_or_ge l n with q | q
          · exact hb l q bl
          · have e : l = n := by omega
            subst e
            exact ⟨Int.not_lt.mp hr, fun z => absurd z (by omega)⟩
      · refine ⟨i, ⟨gi, by omega, fun l hl bl => ?_⟩, bs⟩
        rcases Nat.lt_or_ge l n with q | q
        · exact hb l q bl
        · have e : l = n := by omega
          subst e
          exact absurd bl hn
    · have e : j = n := by omega
      subst e
      by_cases hx : ∃ l, l < j ∧ Beside os j l
      · obtain ⟨l, hl, bl⟩ := hx
        obtain ⟨i, ⟨gi, hi, hb⟩, bs⟩ := best_to h j l hl bl.1
        have bij : Beside os i j := bs.trans (bl.symm g)
        by_cases hr : rgt os j i
        · refine ⟨j, ⟨g, Nat.lt_succ_self _, fun l hl bl => ?_⟩, Beside.rfl' g⟩
          have bil : Beside os i l := bij.trans bl
          rcases Nat.lt_or_ge l j with q | q
          · have r1 := (hb l q bil).1
            have r2 : rgt os j l := by
              unfold rge at r1
              unfold rgt at *
              exact lt_trans3' (h.x l) (h.x i) (h.x j) r1 hr
            exact ⟨Int.le_of_lt r2, fun _ => r2⟩
          · have e : l = j := by omega
            subst e
            exact ⟨Int.le_refl _, fun z => absurd z (Nat.lt_irrefl _)⟩
        · refine ⟨i, ⟨gi, by omega, fun l hl bl => ?_⟩, bij⟩
          rcases Nat.lt_or_ge l j with q | q
          · exact hb l q bl
          · have e : l = j := by omega
            subst e
            exact ⟨Int.not_lt.mp hr, fun z => absurd z (by omega)⟩
      · refine ⟨j, ⟨g, Nat.lt_succ_self _, fun l hl bl => ?_⟩, Beside.rfl' g⟩
        rcases Nat.lt_or_ge l j with q | q
        · exact absurd ⟨l, q, bl⟩ hx
        · have e : l = j := by omega
          subst e
          exact ⟨Int.le_refl _, fun z => absurd z (Nat.lt_irrefl _)⟩
theorem best_of (h : OsOk k os) {j : Nat} (g : Giv os j) : ∃ i, Best os i ∧ Beside os i j ∧ rge os i j := by
  obtain ⟨i, b, bs⟩ := best_to h os.length j g.1 g
  exact ⟨i, b, bs, (b.2.2 j g.1 bs).1⟩
theorem BestTo.uniq {n i j : Nat} (a : BestTo os n i) (b : BestTo os n j) (c : Beside os i j) : i = j := by
  rcases Nat.lt_trichotomy i j with q | q | q
  · have r1 := (b.2.2 i a.2.1 (c.symm a.1)).2 q
    have r2 := (a.2.2 j b.2.1 c).1
    unfold rgt at r1
    unfold rge at r2
    omega
  · exact q
  · have r1 := (a.2.2 j b.2.1 c).2 q
    have r2 := (b.2.2 i a.2.1 (c.symm a.1)).1
    unfold rgt at r1
    unfold rge at r2
    omega
end

/-! ### chains -/
def num (os : List Off) : List Nat → Int
  | [] => 1
  | i :: T => (off os i).y * num os T
def den (os : List Off) : List Nat → Int
  | [] => 1
  | i :: T => (off os i).x * den os T
def endK (os : List Off) : Int → List Nat → Int
  | c, [] => c
  | _, i :: T => endK os (dst os i) T
def Walk (os : List Off) : Int → List Nat → Prop
  | _, [] => True
  | c, i :: T => Giv os i ∧ src os i = c ∧ Walk os (dst os i) T
def Chain (os : List Off) : Int → List Nat → Prop
  | _, [] => True
  | c, i :: T => Best os i ∧ src os i = c ∧ Chain os (dst os i) T
def kds (os : List Off) (c : Int) (T : List Nat) : List Int := c :: T.map (dst os)
def Trail (os : List Off) (c : Int) (T : List Nat) : Prop := Chain os c T ∧ (kds os c T).Nodup
def Loop (os : List Off) (c : Int) (L : List Nat) : Prop := ∃ T i, Trail os c T ∧ Best os i ∧ src os i = endK os c T ∧ dst os i = c ∧ L = T ++ [i]
def NoGain (os : List Off) (c : Int) : Prop := ∀ L, Loop os c L → num os L ≤ den os L
def Reach (os : List Off) (a c : Int) : Prop := ∃ W, Walk os a W ∧ endK os a W = c
section
variable {k : Int} {os : List Off}
theorem num_app (T U : List Nat) : num os (T ++ U) = num os T * num os U := by
  induction T with
  | nil => simp [num]
  | cons i T ih => simp only [List.cons_append, num, ih, Int.mul_assoc]
theorem den_app (T U : List Nat) : den os (T ++ U) = den os T * den os U := by
  induction T with
  | nil => simp [den]
  | cons i T ih => simp only [List.cons_append, den, ih, Int.mul_assoc]
theorem end_app (c : Int) (T U : List Nat) : endK os c (T ++ U) = endK os (endK os c T) U := by
  induction T generalizing c with
  | nil => rfl
  | cons i T ih => exact ih (dst os i)
theorem walk_app {c : Int} {T U : List Nat} : Walk os c (T ++ U) ↔ Walk os c T ∧ Walk os (endK os c T) U := by
  induction T generalizing c with
  | nil => simp [Walk, endK]
  | cons i T ih => simp only [List.cons_append, Walk, ih, endK, and_assoc]
theorem chain_app {c : Int} {T U : List Nat} : Chain os c (T ++ U) ↔ Chain os c T ∧ Chain os (endK os c T) U := by
  induction T generalizing c with
  | nil => simp [Chain, endK]
  | cons i T ih => simp only [List.cons_append, Chain, ih, endK, and_assoc]
theorem Chain.walk {c : Int} {T : List Nat} (h : Chain os c T) : Walk os c T := by
  induction T generalizing c with
  | nil => trivial
  | cons i T ih => exact ⟨h.1.1, h.2.1, ih h.2.2⟩
theorem den_pos (h : OsOk k os) (T : List Nat) : 0 < den os T := by
  induction T with
  | nil => exact (by decide : (0 : Int) < 1)
  | cons i T ih => exact Int.mul_pos (h.x i) ih
theorem Walk.num_pos {c : Int} {T : List Nat} (h : Walk os c T) : 0 < num os T := by
  induction T generalizing c with
  | nil => exact (by decide : (0 : Int) < 1)
  | cons i T ih => exact Int.mul_pos h.1.2 (ih h.2.2)
theorem end_mem (c : Int) (T : List Nat) : endK os c T ∈ kds os c T := by
  induction T generalizing c with
  | nil => simp [endK, kds]
  | cons i T ih =>
    have := ih (dst os i)
    simp only [endK, kds, List.map_cons, List.mem_cons] at *
    exact .inr this
theorem kds_app (c : Int) (T U : List Nat) : kds os c (T ++ U) = kds os c T ++ U.map (dst os) := by
  simp [kds]
theorem kds_split {c d : Int} {T : List Nat} (h : d ∈ kds os c T) : ∃ T1 T2, T = T1 ++ T2 ∧ endK os c T1 = d := by
  induction T generalizing c with
  | nil =>
    simp only [kds, List.map_nil, List.mem_cons, List.not_mem_nil, or_false] at h
    exact ⟨[], [], rfl, h.symm⟩
  | cons i T ih =>
    simp only [kds, List.map_cons, List.mem_cons] at h
    rcases h with h | h
    · exact ⟨[], i :: T, rfl, h.symm⟩
    · obtain ⟨T1, T2, e, q⟩ := ih (c := dst os i) (by simp only [kds, List.mem_cons]; exact h)
      exact ⟨i :: T1, T2, by rw [e]; rfl, q⟩
theorem nodup_app_left {α : Type} {l m : List α} (h : (l ++ m).Nodup) : l.Nodup := (List.nodup_append.mp h).1
theorem Trail.left {c : Int} {T U : List Nat} (h : Trail os c (T ++ U)) : Trail os c T := by
  refine ⟨(chain_app.mp h.1).1, ?_⟩
  have := h.2
  rw [kds_app] at this
  exact nodup_app_left this
theorem Trail.right {c : Int} {T U : List Nat} (h : Trail os c (T ++ U)) : Trail os (endK os c T) U := by
  induction T generalizing c with
  | nil => exact h
  | cons i T ih =>
    refine ih (c := dst os i) ⟨h.1.2.2, ?_⟩
    have := h.2
    simp only [kds, List.cons_append, List.map_cons, List.nodup_cons] at *
    exact this.2
theorem Trail.snoc {c : Int} {T : List Nat} {i : Nat} (h : Trail os c T) (b : Best os i) (s : src os i = endK os c T) (n : dst os i ∉ kds os c T) : Trail os c (T ++ [i]) := by
  refine ⟨chain_app.mpr ⟨h.1, b, s, trivial⟩, ?_⟩
  rw [kds_app, List.nodup_append]
  refine ⟨h.2, by simp, fun a ha b hb e => ?_⟩
  simp only [List.map_cons, List.map_nil, List.mem_singleton] at hb
  subst hb
  subst e
  exact n ha
/-- the step: a best offer more -/
theorem trail_step (h : OsOk k os) (ng : ∀ c, NoGain os c) {c : Int} {T : List Nat} {i : Nat} (t : Trail os c T) (b : Best os i) (s : src os i = endK os c T) :
    ∃ U, Trail os c U ∧ endK os c U = dst os i ∧ num os (T ++ [i]) * den os U ≤ num os U * den os (T ++ [i]) := by
  by_cases hm : dst os i ∈ kds os c T
  · obtain ⟨T1, T2, e, q⟩ := kds_split hm
    subst e
    have t2 := t.right
    rw [q] at t2
    have hl : Loop os (dst os i) (T2 ++ [i]) := ⟨T2, i, t2, b, by rw [s, end_app, q], rfl, rfl⟩
    have := ng _ _ hl
    refine ⟨T1, t.left, q, ?_⟩
    rw [List.append_assoc, num_app, den_app]
    have p1 := t.left.1.walk.num_pos
    have p2 := den_pos h T1
    have p3 := Int.mul_pos p1 p2
    have e1 := Int.mul_le_mul_of_nonneg_left this (Int.le_of_lt p3)
    grind
  · refine ⟨T ++ [i], t.snoc b s hm, by rw [end_app]; rfl, Int.le_refl _⟩
theorem Trail.nil (c : Int) : Trail os c [] := ⟨trivial, by simp [kds]⟩
/-- each walk has a trail that is as good -/
theorem trail_max (h : OsOk k os) (ng : ∀ c, NoGain os c) {a : Int} : ∀ (n : Nat) (W : List Nat), W.length = n → Walk os a W → ∃ T, Trail os a T ∧ endK os a T = endK os a W ∧ num os W * den os T ≤ num os T * den os W
  | 0, W, hn, w => by
    have e : W = [] := List.length_eq_zero_iff.mp hn
    subst e
    exact ⟨[], Trail.nil a, rfl, Int.le_refl _⟩
  | n + 1, W, hn, w => by
    have hne : W ≠ [] := fun z => by subst z; simp at hn
    obtain ⟨V, i, e⟩ : ∃ V i, W = V ++ [i] := ⟨W.dropLast, W.getLast hne, (List.dropLast_concat_getLast hne).symm⟩
    subst e
    have hl : V.length = n := by simpa using hn
    obtain ⟨w1, w2⟩ := walk_app.mp w
    obtain ⟨T, t, te, tr⟩ := trail_max h ng n V hl w1
    obtain ⟨j, bj, bs, rj⟩ := best_of h w2.1
    have sj : src os j = endK os a T := by rw [te, ← w2.2.1, bs.2.1]
    obtain ⟨U, u, ue, ur⟩ := trail_step h ng t bj sj
    refine ⟨U, u, by rw [ue, end_app]; exact bs.2.2.symm, ?_⟩
    rw [num_app, den_app] at *
    have en : num os [i] = (off os i).y := by simp [num]
    have ed : den os [i] = (off os i).x := by simp [den]
    have en' : num os [j] = (off os j).y := by simp [num]
    have ed' : den os [j] = (off os j).x := by simp [den]
    rw [en, ed]
    rw [en', ed'] at ur
    unfold rge at rj
    have pT := den_pos h T
    have pV := den_pos h V
    have pU := den_pos h U
    have nT := t.1.walk.num_pos
    have nV := w1.num_pos
    have xi := h.x i
    have xj := h.x j
    have yi := w2.1.2
    have yj : 0 < (off os j).y := bj.1.2
    -- V·i ≤ T·j ≤ U
    have s1 : (num os V * (off os i).y) * (den os T * (off os j).x) ≤ (num os T * (off os j).y) * (den os V * (off os i).x) := by
      have m1 := Int.mul_le_mul tr rj (Int.le_of_lt (Int.mul_pos yi xj)) (Int.le_of_lt (Int.mul_pos nT pV))
      grind
    exact le_trans3 (Int.mul_pos pV xi) (Int.mul_pos pT xj) pU s1 ur
theorem Reach.refl (a : Int) : Reach os a a := ⟨[], trivial, rfl⟩
theorem Reach.trans {a b c : Int} (x : Reach os a b) (y : Reach os b c) : Reach os a c := by
  obtain ⟨W, w, e⟩ := x
  obtain ⟨V, v, f⟩ := y
  subst e
  exact ⟨W ++ V, walk_app.mpr ⟨w, v⟩, by rw [end_app, f]⟩
theorem Reach.step {a : Int} {i : Nat} (g : Giv os i) (s : Reach os a (src os i)) : Reach os a (dst os i) := s.trans ⟨[i], ⟨g, rfl, trivial⟩, rfl⟩
theorem reach_trail (h : OsOk k os) (ng : ∀ c, NoGain os c) {a c : Int} : Reach os a c ↔ ∃ T, Trail os a T ∧ endK os a T = c := by
  constructor
  · rintro ⟨W, w, e⟩
    obtain ⟨T, t, te, _⟩ := trail_max h ng W.length W rfl w
    exact ⟨T, t, te.trans e⟩
  · rintro ⟨T, t, e⟩
    exact ⟨T, t.1.walk, e⟩
/-- a set that is closed under steps holds what is reached -/
theorem reach_closed {S : Int → Prop} (hc : ∀ i, Giv os i → S (src os i) → S (dst os i)) : ∀ (W : List Nat) (a : Int), S a → Walk os a W → S (endK os a W)
  | [], _, h, _ => h
  | i :: W, a, h, w => reach_closed hc W _ (hc i w.1 (by rw [w.2.1]; exact h)) w.2.2

/-! ### best ratios -/
/-- T is a best trail from a to c -/
def Top (os : List Off) (a c : Int) (T : List Nat) : Prop := Trail os a T ∧ endK os a T = c ∧ ∀ U, Trail os a U → endK os a U = c → num os U * den os T ≤ num os T * den os U
theorem Top.walk (h : OsOk k os) (ng : ∀ c, NoGain os c) {a c : Int} {T W : List Nat} (t : Top os a c T) (w : Walk os a W) (e : endK os a W = c) : num os W * den os T ≤ num os T * den os W := by
  obtain ⟨U, u, ue, ur⟩ := trail_max h ng W.length W rfl w
  exact le_trans3 (den_pos h W) (den_pos h U) (den_pos h T) ur (t.2.2 U u (ue.trans e))
theorem top_third (h : OsOk k os) (ng : ∀ c, NoGain os c) {a b c : Int} {T U V : List Nat} (t : Top os a b T) (u : Top os b c U) (v : Top os a c V) : (num os T * num os U) * den os V ≤ num os V * (den os T * den os U) := by
  have e := Top.walk h ng (W := T ++ U) v (walk_app.mpr ⟨t.1.1.walk, by rw [t.2.1]; exact u.1.1.walk⟩) (by rw [end_app, t.2.1, u.2.1])
  rw [num_app, den_app] at e
  exact e
theorem top_offer (h : OsOk k os) (ng : ∀ c, NoGain os c) {a c : Int} {i : Nat} {U V : List Nat} (g : Giv os i) (s : src os i = a) (u : Top os (dst os i) c U) (v : Top os a c V) : ((off os i).y * num os U) * den os V ≤ num os V * ((off os i).x * den os U) := by
  have e := Top.walk h ng (W := i :: U) v ⟨g, s, u.1.1.walk⟩ (by show endK os (dst os i) U = c; exact u.2.1)
  exact e
/-- (n, d) is the greatest ratio from a to any kind -/
def Price (os : List Off) (a : Int) (n d : Int) : Prop := 0 < n ∧ 0 < d ∧ (∀ U, Trail os a U → num os U * d ≤ n * den os U) ∧ ∃ T, Trail os a T ∧ n * den os T = num os T * d
theorem top_price (h : OsOk k os) (ng : ∀ c, NoGain os c) {a c na da nc dc : Int} {T : List Nat} (t : Top os a c T) (pa : Price os a na da) (pc : Price os c nc dc) : (num os T * nc) * da ≤ na * (den os T * dc) := by
  obtain ⟨n0, d0, _, U, u, eu⟩ := pc
  obtain ⟨n1, d1, hm, _⟩ := pa
  have w : Walk os a (T ++ U) := walk_app.mpr ⟨t.1.1.walk, by rw [t.2.1]; exact u.1.walk⟩
  obtain ⟨V, v, _, vr⟩ := trail_max h ng (T ++ U).length (T ++ U) rfl w
  have q := le_trans3 (den_pos h _) (den_pos h V) d1 vr (hm V v)
  rw [num_app, den_app] at q
  have pU := den_pos h U
  -- num T * num U * da ≤ na * (den T * den U); num U * dc = nc * den U
  refine Int.le_of_mul_le_mul_right (a := den os U) ?_ pU
  have q2 := Int.mul_le_mul_of_nonneg_right q (Int.le_of_lt d0)
  grind
/-- with prices no loop gains -/
theorem chain_fair {P : Int → Int} (hp : ∀ c, 0 < P c) (h : OsOk k os) (hf : ∀ i, i < os.length → P (dst os i) * (off os i).y ≤ P (src os i) * (off os i).x) : ∀ (T : List Nat) (c : Int), Walk os c T → P (endK os c T) * num os T ≤ P c * den os T
  | [], c, _ => Int.le_refl _
  | i :: T, c, w => by
    have ih := chain_fair hp h hf T (dst os i) w.2.2
    have q := hf i w.1.1
    rw [w.2.1] at q
    show P (endK os (dst os i) T) * ((off os i).y * num os T) ≤ P c * ((off os i).x * den os T)
    have e1 := Int.mul_le_mul_of_nonneg_right ih (Int.le_of_lt w.1.2)
    have e2 := Int.mul_le_mul_of_nonneg_right q (Int.le_of_lt (den_pos h T))
    grind
theorem fair_nogain {P : Int → Int} (hp : ∀ c, 0 < P c) (h : OsOk k os) (hf : ∀ i, i < os.length → P (dst os i) * (off os i).y ≤ P (src os i) * (off os i).x) (c : Int) : NoGain os c := by
  rintro L ⟨T, i, t, b, s, d, rfl⟩
  have w : Walk os c (T ++ [i]) := walk_app.mpr ⟨t.1.walk, b.1, s, trivial⟩
  have e := chain_fair hp h hf _ c w
  have ee : endK os c (T ++ [i]) = c := by rw [end_app]; exact d
  rw [ee] at e
  exact Int.le_of_mul_le_mul_left e (hp c)
end
end Sm
end
section
set_option Elab.async false
set_option linter.all false
set_option maxRecDepth 100000
set_option maxHeartbeats 4000000
namespace SmR
open PySem PySem.Spec PyProof.Rows L2
/-! ### enumerate over a tuple -/
def IteT (K : PySem.W.Frag) (a : Addr) : It :=
  ⟨fun i H => ∃ (xs : List V) (x : V), SqT K H a xs ∧ xs[i]? = some x, fun i H v H' => ∃ T x, v = .ref T ∧ H T = none ∧ H' = upd H T (.tup [.int (i : Nat), x]) ∧ ∀ xs, SqT K H a xs → xs[i]? = some x, fun i H => ∃ xs : List V, SqT K H a xs ∧ xs.length ≤ i⟩
theorem turn_enumT {P : Program} {w : World} {K : PySem.W.Frag} {elts : List Expr} {kk : Nat} {tpos : Pos} (a e it : Addr) :
    Turn P w K (.Tuple elts kk tpos) (IteT K a) [e, it] e (fun i h => (∃ old, IsEnum h e it ((i : Nat) : Int) old) ∧ h.IsTupleIter it a i ∧ e ≠ it) where
  mem := by simp
  obj := fun i h st b hb => by
    obtain ⟨⟨old, he⟩, ⟨o, ho, hc, hd⟩, _⟩ := st
    have e' : b = e ∨ b = it := by simpa using hb
    rcases e' with z | z
    · rw [z]; exact ⟨_, he, fun v q => nomatch q⟩
    · rw [z]; exact ⟨o, ho, fun v q => by rw [hd] at q; cases q⟩
  keep := fun i h h' st k => let ⟨⟨old, he⟩, hi, hne⟩ := st; ⟨⟨old, k e (by simp) _ he⟩, hi.at fun o q => k it (by simp) o q, hne⟩
  item := by
    intro X hP hw hK hc i pins s σ H E I hf st hg
    subst hP hw hK
    obtain ⟨⟨old, he⟩, hit, hne⟩ := st
    obtain ⟨xs, x, hq, hx⟩ := hg
    obtain ⟨its, rv, p, hz⟩ := I.tuple hq
    obtain ⟨u, hu, ru⟩ := rv.get hx
    have hel : e < s.heap.objs.size := Heap.lt_size he
    have hil : it < s.heap.objs.size := by obtain ⟨_, q, _⟩ := hit; exact Heap.lt_size q
    have hea : e ≠ a := by
      intro z
      subst z
      obtain ⟨o, ho, hcl, _⟩ := p
      rw [he] at ho
      cases ho
      have z : (Value.type "enumerate") = .type "tuple" := hcl
      injection z with z
      exact absurd z (by decide)
    have hai : a ≠ it := by
      intro z
      subst z
      obtain ⟨o, ho, hcl, _⟩ := p
      obtain ⟨o2, ho2, hcl2, _⟩ := hit
      rw [ho] at ho2
      cases ho2
      rw [hcl] at hcl2
      injection hcl2 with z
      exact absurd z (by decide)
    have D := Draws.tuple (prog := X.prog) (w := X.w) (A := X.A.in1) (show X.A.in1.handled = none from I.ok.hd hc) it a hai its.toArray
    refine wpAny_pyNext_enum_itemD D he ⟨hit, p⟩ (by have := rv.length; have := (List.getElem?_eq_some_iff.mp hx).1; simp; omega) hne (by simp [hea, hne]) fun x' h' tk hP ho hit' hT hsz hk => ?_
    have ex : x' = u := by
      have hP' : its.toArray[i]? = some x' := hP
      rw [show its.toArray[i]? = some u by simpa using hu] at hP'
      exact (Option.some.inj hP').symm
    subst ex
    refine ⟨_, rfl, wpAny_letOwnedTupleGo_enum (s := { s with heap := h', toks := tk + 1 }) ho fun h'' he' sb => ?_⟩
    have hT2 : h''.get? s.heap.objs.size = some { cls := .type "tuple", data := .seq #[.int i tk, x'] } := (sb.2 _ (Nat.ne_of_gt hel)).trans hT
    have new : ObjOk X.prog X.w (upd H s.heap.objs.size (.tup [.int (i : Nat), x])) h'' s.heap.objs.size (.tup [.int (i : Nat), x]) :=
      ⟨by show 2 ≤ sizeLine; decide, [.int i tk, x'], .cons ⟨_, rfl⟩ (.cons ru .nil), ⟨_, hT2, rfl, _, rfl⟩⟩
    have I1 : Inv X pins σ (upd H s.heap.objs.size (.tup [.int (i : Nat), x])) { s with heap := h'', toks := tk + 1 } :=
      I.turnedNew (ch := [e, it]) (fun b ob hb q => (sb.2 b (fun z => hb (by simp [z]))).trans (hk b ob (fun z => hb (by simp [z])) (fun z => hb (by simp [z])) q)) hf (Nat.le_refl _) new
    refine ⟨.ref s.heap.objs.size, _, I1, rfl, ⟨_, x, rfl, I.hok.fresh (Nat.le_refl _), rfl, fun ys hy => by rw [I.tuple_inj hy hq]; exact hx⟩, ⟨⟨x', ?_⟩, hit'.1.at fun o q => (sb.2 it (Ne.symm hne)).trans q, hne⟩, fun b hb => ?_⟩
    · have e1 : ((i + 1 : Nat) : Int) = (i : Int) + 1 := by omega
      rw [e1]; exact he'
    · have hb' : b < s.heap.objs.size := by
        have e' : b = e ∨ b = it := by simpa using hb
        rcases e' with z | z
        · rw [z]; exact hel
        · rw [z]; exact hil
      rw [upd_ne (Nat.ne_of_lt hb')]
      exact (hf b hb).1
  done := by
    intro X hP hw hK hc i pins s σ H E I hf st hg
    subst hP hw hK
    obtain ⟨⟨old, he⟩, hit, hne⟩ := st
    obtain ⟨xs, hq, hx⟩ := hg
    obtain ⟨its, rv, p, hz⟩ := I.tuple hq
    obtain ⟨f0, f1, f2, f3, f4, f5⟩ := hf it (by simp)
    have hl := rv.length
    have hea : e ≠ a := by
      intro z
      subst z
      obtain ⟨o, ho, hcl, _⟩ := p
      rw [he] at ho
      cases ho
      have z : (Value.type "enumerate") = .type "tuple" := hcl
      injection z with z
      exact absurd z (by decide)
    have hai : a ≠ it := by
      intro z
      subst z
      obtain ⟨o, ho, hcl, _⟩ := p
      obtain ⟨o2, ho2, hcl2, _⟩ := hit
      rw [ho] at ho2
      cases ho2
      rw [hcl] at hcl2
      injection hcl2 with z
      exact absurd z (by decide)
    have D0 := Draws.tuple (prog := X.prog) (w := X.w) (A := X.A.in1) (show X.A.in1.handled = none from I.ok.hd hc) it a hai its.toArray
    have D : Draws X.prog X.w X.A.in1 it [it, a] i (fun _ _ => False) (fun j h => h.IsTupleIter it a j ∧ h.IsTuple a its.toArray ∧ i ≤ j) := by
      refine ⟨fun j h st => D0.live j h ⟨st.1, st.2.1⟩, fun j h h' st k => ?_, fun j s Q E hj st => absurd st.2.2 (by omega), fun s Q E st hE => ?_⟩
      · have := D0.frame j h h' ⟨st.1, st.2.1⟩ k
        exact ⟨this.1, this.2, st.2.2⟩
      · exact wpAny_nextOf_tuple_end (show X.A.in1.handled = none from I.ok.hd hc) st.1 st.2.1 (by simp; omega) hE
    exact wpAny_pyNext_enum_endD D he ⟨hit, p, Nat.le_refl _⟩ fun h' eb => ⟨rfl, I.turned (t' := s.toks) (fun b o hb q => eb b o hb q) f0 f1 f3 f4 f5⟩
  self := fun A i s Q E st h => let ⟨⟨_, he⟩, _⟩ := st; wpAny_pyIter_enum he h
theorem meets_enumerate_newT {v : Value} {o : Obj} {H : Heap → Prop} (B : Begins v o H) :
    Meets (Builtin.«enumerate.__new__» ⟨[.type "enumerate", v], []⟩) (fun _ R s => H s.heap ∧
      R (.ok (.ret (.ref (s.heap.push o).objs.size))) { s with heap := (s.heap.push o).push { cls := .type "enumerate", data := .fields #[.none, .bool false, .ref s.heap.objs.size, rawInt 0, .none, .none] } }) :=
  .of_wp fun prog w A R s h => by
    obtain ⟨hp, g, d, tk, os⟩ := s; obtain ⟨h1, h⟩ := h
    have hsub := sub_enumerate
    have q1 : ∀ {A' : Around} {E : Value → Shared → Prop} {Q : Value → Shared → Prop}, Q (.ref hp.objs.size) ⟨hp.push o, g, d, tk, os⟩ → wpAny (model prog w) A' (pyIter v) Q E ⟨hp, g, d, tk, os⟩ :=
      fun q => B.iter prog w _ _ ⟨hp, g, d, tk, os⟩ _ h1 q
    wp_walk using q1
    refine wpAny_stack_any fun st => wpAny_pure ?_
    split
    · rename_i c _ _ _ _ _
      cases (c == Value.type "enumerate")
      · wp_walk using q1
        exact ⟨_, rfl, h⟩
      · wp_walk using q1
        exact ⟨_, rfl, h⟩
    · wp_walk using q1
      exact ⟨_, rfl, h⟩
theorem enum_tuple {prog : Program} {w : World} {A : Around} {E : Value → Shared → Prop} {s : Shared} {v : Value} {o : Obj} {H : Heap → Prop} {Q : Value → Shared → Prop} (B : Begins v o H) (h1 : H s.heap)
    (h : ∀ h', IsEnum h' (s.heap.objs.size + 1) s.heap.objs.size 0 .none → h'.get? s.heap.objs.size = some o → h'.objs.size = s.heap.objs.size + 2 →
      (∀ b o, s.heap.get? b = some o → h'.get? b = some o) → Q (.ref (s.heap.objs.size + 1)) { s with heap := h' }) :
    wpAny (model prog w) A (call (.type "enumerate") [v]) Q E s := by
  refine callType_new F.called_enumerate (by decide) (F.typeCall_enumerate_1 _) (F.newCall_enumerate_1 _) (fun obj => F.args_object_init_2 obj _) F.entry_enumerate_new
    (meets_enumerate_newT B) ⟨h1, ?_⟩
  have hz : (s.heap.push o).objs.size = s.heap.objs.size + 1 := Heap.size_push ..
  show _ ∧ _
  rw [hz]
  have he : IsEnum ((s.heap.push o).push { cls := .type "enumerate", data := .fields #[.none, .bool false, .ref s.heap.objs.size, rawInt 0, .none, .none] }) (s.heap.objs.size + 1) s.heap.objs.size 0 .none := by
    have := Heap.get?_push_size (s.heap.push o) (o := { cls := .type "enumerate", data := .fields #[.none, .bool false, .ref s.heap.objs.size, rawInt 0, .none, .none] }) rfl
    rw [hz] at this; exact this
  refine ⟨⟨_, he, rfl⟩, h _ he (Heap.get?_push_of_some _ (Heap.get?_push_size _ B.free)) (by rw [Heap.size_push, hz]) fun b o x => Heap.get?_push_of_some _ (Heap.get?_push_of_some _ x)⟩
def iEnumT (K : PySem.W.Frag) (ta : TA) : TI := fun σ H R => ta σ H fun vs H1 => ∃ a xs, vs = [.ref a] ∧ SqT K H1 a xs ∧ R (IteT K a) H1
theorem pi_enumT {X : Cx} {e : Expr} {ta : TA} {p pos tpos : Pos} {elts : List Expr} {kk : Nat} (hg : Gl X "enumerate") (hm : X.mg "enumerate" = none) (ha : PA X [e] ta) (hs : starEach [e] X.env = [(false, eval e X.env)] := by rfl) :
    PI X (.Tuple elts kk tpos) (.Call (.Name "enumerate" p) [e] [] pos) (iEnumT X.K ta) := by
  refine ⟨fun pins s σ H R I h => ?_⟩
  refine Call_ (ld_blt I hg hm boot_enumerate (PyProof.Rows.callWith_type1 (thn (ha.run pos pins s σ H _ I h) fun us s1 ⟨vs, H1, I1, r1, q1⟩ => ?_) hs rfl))
  obtain ⟨a, xs, ex, hq, q⟩ := q1
  subst ex
  cases r1 with
  | cons r rr =>
    cases rr
    cases r
    obtain ⟨its, rv, p', hz⟩ := I1.tuple hq
    refine enum_tuple (begins_tuple a its.toArray) p' fun h' he hit hsz hk => wpAny_pyIter_enum he ?_
    have I2 : Inv X pins σ H1 { s1 with heap := h' } := I1.kept (t' := s1.toks) hk
    refine ⟨s1.heap.objs.size + 1, [s1.heap.objs.size + 1, s1.heap.objs.size], _, _, H1, rfl, I2, turn_enumT a (s1.heap.objs.size + 1) s1.heap.objs.size, ⟨⟨.none, he⟩, ⟨_, hit, rfl, rfl⟩, Nat.succ_ne_self _⟩, fun b hb => ?_, q⟩
    have e' : b = s1.heap.objs.size + 1 ∨ b = s1.heap.objs.size := by simpa using hb
    have hle : s1.heap.objs.size ≤ b := by
      rcases e' with z | z
      · rw [z]; exact Nat.le_add_right _ _
      · rw [z]; exact Nat.le_refl _
    exact I1.fpOk hle (I1.hok.fresh hle)
theorem walk_enumT {K : PySem.W.Frag} {a : Addr} {xs : List V} : Walk (IteT K a) xs.length (fun H => SqT K H a xs) (YPair (fun i => some (.int (i : Nat))) (fun i => xs[i]?)) := by
  refine ⟨fun i _ hi q => ⟨xs, xs[i], q, by simp [hi]⟩, fun _ q => ⟨xs, q, Nat.le_refl _⟩, fun i H v H' _ q y => ?_⟩
  obtain ⟨T, x, h1, h2, h3, h4⟩ := y
  exact ⟨T, .int (i : Nat), x, h1, h2, h3, rfl, h4 xs q⟩
end SmR
end
section
set_option Elab.async false
set_option linter.all false
set_option maxRecDepth 100000
set_option maxHeartbeats 4000000
namespace SmR
open PySem PySem.Spec PyProof.Rows L2
theorem dpAll_ints {K : PySem.W.Frag} {H : Hp} : ∀ ns : List Int, DpAll K H (ns.map V.int) (ns.map PyData.int)
  | [] => .nil
  | n :: ns => .cons (.int n) (dpAll_ints ns)
theorem alike_ints (ns : List Int) : PySem.W.AlikeAll (ns.map PyData.int) := by
  refine ⟨fun a ha b hb => ?_, fun a ha => ?_⟩
  · obtain ⟨i, _, rfl⟩ := List.mem_map.mp ha
    obtain ⟨j, _, rfl⟩ := List.mem_map.mp hb
    first | rfl | simp [PySem.W.alike] | simp [alike]
  · obtain ⟨i, _, rfl⟩ := List.mem_map.mp ha
    intro z
    cases z
theorem depth_ints : ∀ ns : List Int, PyData.depthAll (ns.map PyData.int) = 0
  | [] => by simp [PyData.depthAll]
  | n :: ns => by simp [PyData.depthAll, PyData.depth, depth_ints ns]
section
variable {X : Cx}
/-- min of a tuple of ints: one of them -/
def rMinT (K : PySem.W.Frag) : List V → Hp → VK → Prop := fun vs H Q => ∃ (a : Addr) (ns : List Int), vs = [V.ref a] ∧ SqT K H a (ns.map V.int) ∧ ns ≠ [] ∧ ∀ m, m ∈ ns → Q (.int m) H
theorem cr_minT (hc : X.calm = true) (hu : X.A.units + 64 < cLine) : CallR X (.builtin "min") (rMinT X.K) := by
  intro pins s σ H vs us Q I r h
  obtain ⟨a, ns, rfl, hs, hne, q⟩ := h
  obtain ⟨its, rv, hl, _⟩ := I.tuple hs
  rw [Vals.ref1 r]
  cases ns with
  | nil => exact absurd rfl hne
  | cons n ns =>
    obtain ⟨as, hr⟩ := Dp.readsAll I ((n :: ns).map PyData.int) _ its (dpAll_ints (n :: ns)) rv
    have hr' : ReadsAll s.heap its.toArray.toList (PyData.int n :: ns.map PyData.int) as := by simpa using hr
    refine PySem.W.min_tuple_data (I.ok.hd hc) (show s.heap.IsTuple a its.toArray from hl) hr' (alike_ints (n :: ns)) (by
      have := depth_ints (n :: ns)
      rw [List.map_cons] at this
      rw [this]
      omega) fun i v h' tk bs hi _ hk => ?_
    have hi' : its[i]? = some v := by simpa using hi
    obtain ⟨hlt, ev⟩ := List.getElem?_eq_some_iff.mp hi'
    have hlen := rv.length
    rw [List.length_map] at hlen
    have hin : i < (n :: ns).length := by omega
    obtain ⟨u, hu', ru⟩ := rv.get (i := i) (x := .int (n :: ns)[i]) (by rw [List.getElem?_map, List.getElem?_eq_getElem hin]; rfl)
    rw [hi'] at hu'
    cases hu'
    exact ⟨.int (n :: ns)[i], H, I.kept hk, ru, q _ (List.getElem_mem hin)⟩
/-- t.index(m), m one of the ints of t -/
def rIdxT (K : PySem.W.Frag) : V → List V → Hp → VK → Prop := fun x xs H Q => ∃ (p : Addr) (ns : List Int) (z : Int), x = .ref p ∧ xs = [.int z] ∧ SqT K H p (ns.map V.int) ∧ z ∈ ns ∧ ∀ j : Nat, j < ns.length → Q (.int (j : Nat)) H
theorem flat_ints (ys : List Int) : (ys.map V.int).all flatV = true := by
  rw [List.all_map]
  exact List.all_eq_true.mpr fun _ _ => rfl
theorem mt_tup_indexI : MtR X "tuple.index" (rIdxT X.K) := by
  intro pins s σ H x xs v us Q I rx rs h
  obtain ⟨p, ys, z, rfl, rfl, hq, hmem, q⟩ := h
  cases rx
  obtain ⟨u, rfl, t, rfl⟩ := vals1 rs
  obtain ⟨its, r, pl, hz⟩ := I.tuple hq
  obtain ⟨⟨cls, dd, dt, sl⟩, ho, hc, n, hd⟩ := pl
  simp only at hc hd
  subst hc
  subst hd
  have hl : its.toArray.size = ys.length := by rw [List.size_toArray, ← r.length, List.length_map]
  obtain ⟨j0, hj0, ej0⟩ := List.getElem_of_mem hmem
  obtain ⟨j, hjle, hpj, hmin⟩ := st_least (p := fun j => ys[j]? = some z) j0 (by rw [List.getElem?_eq_getElem hj0, ej0])
  have hjl : j < ys.length := (List.getElem?_eq_some_iff.mp hpj).1
  have hj : j < its.toArray.size := by rw [hl]; exact hjl
  have at' : ∀ (m : Nat) (hm : m < its.toArray.size), ∃ y t', ys[m]? = some y ∧ its.toArray[m] = Value.int y t' := fun m hm => by
    have hm' : m < ys.length := by rw [← hl]; exact hm
    obtain ⟨w, hw, t', hw'⟩ := r.get (i := m) (x := .int ys[m]) (by simp [hm'])
    refine ⟨ys[m], t', List.getElem?_eq_getElem hm', ?_⟩
    have e := (List.getElem?_eq_some_iff.mp hw).2
    rw [← hw', ← e]
    simp
  refine call_meets PySem.F.slot_tuple_index ⟨_, ho, rfl⟩ PySem.F.entry_tuple_index (PySem.F.args_tuple_index_2 _ _) (TI.tuple_indexAt p its.toArray n dd sl (.int z t) (eqU (.int z)) j hj ?_ ?_)
    ⟨ho, fun w hw => mem_eqAt (x := .int z) ⟨t, rfl⟩ rfl r (flat_ints ys) w (by simpa using hw), ⟨.int (j : Nat), H, I.tok _, ⟨_, rfl⟩, q j hjl⟩⟩
  · obtain ⟨y, t', h1, h2⟩ := at' j hj
    rw [hpj] at h1
    cases h1
    rw [h2]
    show (z == z) = true
    exact beq_self_eq_true z
  · intro m hm hmj
    obtain ⟨y, t', h1, h2⟩ := at' m hm
    rw [h2]
    show (y == z) = false
    exact beq_eq_false_iff_ne.mpr fun e => hmin m hmj (e ▸ h1)
/-- repr of a list of two bools -/
def two (a b : Bool) : Str := (PyData.list [.bool a, .bool b]).shown
def rRepr2 : List V → Hp → VK → Prop := fun vs H Q => ∃ (l : Addr) (a b : Bool), vs = [V.ref l] ∧ H l = some (.lst [.bl a, .bl b]) ∧ Q (.str (two a b)) H
theorem two_len (a b : Bool) : (two a b).length ≤ sizeLine := by
  rw [sizeLine_eq]
  cases a <;> cases b <;> decide +kernel
theorem cr_repr2 (hg : X.A.guards = some []) (hu : X.A.units + 64 < cLine) : CallR X (.builtin "repr") rRepr2 := by
  intro pins s σ H vs us Q I r h
  obtain ⟨l, a, b, rfl, hs, q⟩ := h
  rw [Vals.ref1 r]
  obtain ⟨as, hr⟩ := Dp.reads I (.list [.bool a, .bool b]) (.ref l) (.ref l) (.lst (SqL.of hs) (.cons (.bl a) (.cons (.bl b) .nil))) rfl
  refine repr_of_reads' hr (by cases a <;> cases b <;> decide +kernel) (PyData.noDict_hsm (by cases a <;> cases b <;> decide +kernel)) hg (by
    have : (PyData.list [.bool a, .bool b]).depth ≤ 2 := by simp [PyData.depth, PyData.depthAll]
    omega) (fun _ _ e => e) (fun h' u tk hk => ⟨.str (two a b), H, I.kept hk, ⟨u, rfl⟩, q⟩) (two_len a b)
end
end SmR
end
section
set_option Elab.async false
set_option linter.all false
set_option maxRecDepth 100000
set_option maxHeartbeats 4000000
/-! A def's promise where it is known that no repr is under way around it (guards = some []): what repr of a list asks. -/
namespace SmR
open PySem PySem.Spec PyProof.Rows L2
section
variable {P : Program} {w : World} {K : PySem.W.Frag} {mg : Str → Option Value} {base : Heap} {CX : CXT}
/-- as FnOk, called where nothing is being shown -/
structure FnG (P : Program) (w : World) (K : PySem.W.Frag) (mg : Str → Option Value) (base : Heap) (CX : CXT) (k : Nat) (f : Addr) (fd : FuncData) (ps : List Str) (sp : Sp) : Prop where
  len : ∀ vs H Q E, sp vs H Q E → vs.length = ps.length
  run : ∀ (A : Around) (outer : List Env) (s : Shared) (H : Hp) (args : Args) (us : List Value) (vs : List V) (Q : VK) (E : XK), A.guards = some [] → Room k A → Env0 P w K mg base A outer s H →
    BindsTo s fd args (ps.zip us) → Vals vs us → sp vs H Q E → codeAny (model P w) A (.call (.ref f) args) (CR CX outer P w H s Q E) s
theorem guards_deeper {A : Around} (h : A.guards = some []) (env : Env) : (A.deeper env).guards = some [] := h
theorem fn_ofG {k : Nat} {f : Addr} {name qual : Str} {params : Arguments} {body : List Stmt} {scope : Scope} {dV kV doc pm cdv ct oc : Value} {an od : Option Addr}
    {osl : Array (Option Value)} {N ps : List Str} {sp : Sp} (lk : K.lookup f = some ⟨oc, od, .func (PySem.W.fnOf name qual params body scope dV kV doc pm an cdv ct), osl⟩) (hcd : PySem.W.codeIn K cdv qual = true) (S : FnScope N ps scope)
    (len : ∀ vs H Q E, sp vs H Q E → vs.length = ps.length)
    (hbody : ∀ (A : Around) (outer : List Env) (s : Shared) (H : Hp) (vs : List V) (Q : VK) (E : XK), (A.deeper (envOfC qual scope s.heap.objs.size f cdv)).guards = some [] → Room k (A.deeper (envOfC qual scope s.heap.objs.size f cdv)) → sp vs H Q E →
      ∃ t, PSs (cxOf CX P w K mg base N qual scope f cdv A outer s H E) body t ∧ t { nx := fun _ H' => Q .non H', rt := Q } (start N vs) H) :
    FnG P w K mg base CX (k + 1) f (PySem.W.fnOf name qual params body scope dV kV doc pm an cdv ct) ps sp := by
  constructor
  · exact len
  intro A outer s H args us vs Q E hgd hr e0 hb r hsp
  have hl := len _ _ _ _ hsp
  have KX : K.In s.heap := e0.mod.kin.keeps fun b o e => (e0.bs b o e).1
  have lim : s.heap.NoLimit := e0.mod.nolimit.keeps fun b o e => (e0.bs b o e).1
  refine codeAny_call_function hr.depth (KX _ _ lk) rfl S.co S.gen rfl (PySem.W.codeRec_of KX hcd) (hb _ _ _ _ ?_)
  have hkind : ∀ y ∈ ps.zip us, scope.names.lookup y.1 = some .local ∨ (scope.names.lookup y.1 = some .cell ∧ ((cellsFrom (s.heap.objs.size + 1) scope.names []).lookup y.1).isSome = true) := by
    rintro ⟨n, v⟩ hy
    have hn := S.par n (List.of_mem_zip hy).1
    exact hn.imp id fun q => ⟨q, PySem.W.cellsFrom_some _ _ _ (.inl q)⟩
  refine wpAny_newFunctionEnv_cells S.kind hkind ?_
  intro env he s1 x
  cases he
  refine ⟨lim.keeps x.toInCall.keep, codeAny_func ?_⟩
  obtain ⟨t, ht, hq⟩ := hbody A outer s H vs Q E (guards_deeper hgd _) (hr.deeper _) hsp
  have I := inv_start (CX := CX) (P := P) (w := w) (mg := mg) (base := base) (qual := qual) (f := f) (cd := cdv) (E := E) S hr.hd e0 hl r x
  refine wpAny_mono (ht.run [] s1 (start N vs) H _ I hq) ?_ fun e s' hs => hs
  intro fl s' hs
  cases fl with
  | ret u =>
    obtain ⟨v, σ', H', J, rv, q⟩ := hs
    exact ⟨v, H', J.os, J.bare, J.base, J.hok, rv, q⟩
  | next =>
    obtain ⟨σ', H', J, q⟩ := hs
    exact ⟨V.non, H', J.os, J.bare, J.base, J.hok, rfl, q⟩
  | brk =>
    obtain ⟨_, _, _, q⟩ := hs
    exact q.elim
  | cont =>
    obtain ⟨_, _, _, q⟩ := hs
    exact q.elim
theorem fun_okG {x qual : Str} {st : Stmt} {f : Addr} {fd : FuncData} {N ps : List Str} {k : Nat} {sp : Sp} (F : Fun K x qual st f fd) (S : FnScope N ps (defScope st)) (len : ∀ vs H Q E, sp vs H Q E → vs.length = ps.length)
    (hbody : ∀ (cdv : Value) (A : Around) (outer : List Env) (s : Shared) (H : Hp) (vs : List V) (Q : VK) (E : XK), (A.deeper (envOfC qual (defScope st) s.heap.objs.size f cdv)).guards = some [] → Room k (A.deeper (envOfC qual (defScope st) s.heap.objs.size f cdv)) → sp vs H Q E →
      ∃ t, PSs (cxOf CX0 P w K mg base N qual (defScope st) f cdv A outer s H E).nox (defBody st) t ∧ t { nx := fun _ H' => Q .non H', rt := Q } (start N vs) H) : FnG P w K mg base CX0 (k + 1) f fd ps sp := by
  obtain ⟨oc, od, kV, doc, pm, an, cdv, ct, osl, rfl, lk, hcd⟩ := F.ex
  refine fn_ofG lk hcd S len ?_
  intro A outer s H vs Q E hgd hr hsp
  obtain ⟨t, h, q⟩ := hbody cdv A outer s H vs Q E hgd hr hsp
  exact ⟨t, h.nox, q⟩
end
section
variable {X : Cx} {CX : CXT} {k : Nat} {f : Addr} {fd : FuncData} {ps : List Str} {sp : Sp} {E : XK} {x : Str} {p pos : Pos} {e : Expr} {es : List Expr} {t : TA}
theorem pe_callG (F : FnG X.prog X.w X.K X.mg X.base CX k f fd ps sp) (hgd : X.A.guards = some []) (hr : Room k X.A) (hg : Gl X x) (hm : X.mg x = some (.ref f)) (hk : PySem.W.keepIn X.K (.ref f) = true) (hb : Binds X.K fd ps []) (hx : Passes CX X E)
    (ha : PA X (e :: es) t) (hdb : (x == ("__debug__" : Str)) = false := by decide) (he : starEach (e :: es) X.env = (false, eval e X.env) :: starEach es X.env := by rfl) (hpl : (backTo pos (starEach es X.env)).any (·.1) = false := by rfl) :
    PE X (.Call (.Name x p) (e :: es) [] pos) (tCall sp [] E t) := by
  constructor
  intro pins s σ H Q I h
  refine wpAny_Call_Name_kw (ld_glob I hg hm ?_ hdb)
  refine PySem.W.callWith_K (h₀ := X.base) I.ok.mod.kin hk (thn (ha.run pos pins s σ H _ I h) ?_) he hpl
  rintro us s1 ⟨vs, H1, I1, r, q⟩
  refine ⟨I1.kIn, ?_⟩
  have q' : sp vs H1 Q E := by
    have q0 : sp (vs ++ []) H1 Q E := q
    rw [List.append_nil] at q0
    exact q0
  have hl : us.length = ps.length := by rw [← r.length]; exact F.len _ _ _ _ q'
  have hb' : BindsTo s1 fd ⟨us, []⟩ (ps.zip us) := by
    have := hb s1 us I1.kIn (by rw [List.append_nil]; exact hl)
    rw [List.append_nil] at this
    exact this
  refine wpAny_call (codeAny_mono (F.run X.A X.stack s1 H1 ⟨us, []⟩ us vs Q E hgd hr I1.env0 hb' r q') ?_)
  intro r s' hq
  cases r with
  | error e => exact hx pins σ H1 s1 e s' I1 hq
  | ok fl =>
    cases fl with
    | ret u => exact I1.after hq
    | next => exact hq.elim
    | brk => exact hq.elim
    | cont => exact hq.elim
end
/-! ### the head, for such a promise -/
theorem only_rel : ∀ {vs : List Value} {ns : List Int}, IntsAre vs ns → Vals (ns.map V.int) vs
  | _, _, .nil => .nil
  | _, _, .cons n t h => .cons ⟨t, rfl⟩ (only_rel h)
theorem call_headG {P : Program} {w : World} {K : PySem.W.Frag} {mg mb : Str → Option Value} {k : Nat} {fa a : Addr} {fd : FuncData} {x : Str} {sp : Sp} {s1 : Shared} {vs : List Value} {ns : List Int}
    (KX : K.In s1.heap) (hns : s1.heap.Ns mainGlobals mg) (hb : s1.heap.Ns builtinsNs mb) (hbb : ∀ x : Str, x ≠ "__name__" → mb x = bootBuiltins x) (hlim : s1.heap.NoLimit) (hg : s1.gens = #[])
    (ha : s1.heap.get? a = some { cls := .type "list", data := .seq vs.toArray }) (hi : IntsAre vs ns) (hl : ns.length ≤ sizeLine) (hr : Room k callerA)
    (F : ∀ base : Heap, K.In base → base.Ns mainGlobals mg → FnG P w K mg base CX0 k fa fd [x] sp) (hbind : ∀ (s : Shared) (u : Value), BindsTo s fd ⟨[u], []⟩ [(x, u)])
    (hsp : ∀ H : Hp, Only H → SqL K H a (ns.map V.int) → sp [.ref a] H (fun v _ => v = .bl true) fun _ _ _ => False) :
    codeAny (model P w) callerA (.call (.ref fa) ⟨[.ref a], []⟩) (fun r s' => r = .ok (.ret (.bool true)) ∧ PySem.OldK s1.heap s'.heap ∧ s'.os = s1.os ∧ AllBare s'.gens) s1 := by
  have rv := only_rel hi
  have lenV := hi.length
  -- the rest, once it is known which abstract heap H is held: at most the script is tracked
  have fin : ∀ H : Hp, Only H → SqL K H a (ns.map V.int) → HOk P w H s1.heap → (∀ b, H b ≠ none → b = a ∧ K.lookup a = none) →
      codeAny (model P w) callerA (.call (.ref fa) ⟨[.ref a], []⟩) (fun r s' => r = .ok (.ret (.bool true)) ∧ PySem.OldK s1.heap s'.heap ∧ s'.os = s1.os ∧ AllBare s'.gens) s1 := by
    intro H hO hS hok hA
    have free : ∀ b, b ≠ a → H b = none := fun b hb => by
      cases q : H b with
      | none => rfl
      | some u => exact absurd (hA b (by rw [q]; simp)).1 hb
    have noD : ∀ {b : Addr} {o : Obj} {es : Array DictEntry} {ep : Nat}, s1.heap.get? b = some o → o.data = .dict es ep → H b = none := by
      intro b o es ep e d
      refine free b fun z => ?_
      subst z
      rw [ha] at e
      cases e
      have d' : Data.seq vs.toArray _ = Data.dict es ep := d
      cases d'
    have ns_hid : ∀ {b : Addr} {m : Str → Option Value}, s1.heap.Ns b m → (hidT s1.heap H).Ns b m := by
      rintro b m ⟨o, es, ep, e, d, r⟩
      exact ⟨o, es, ep, hidT_get e (noD e d), d, r⟩
    have K_hid : K.In (hidT s1.heap H) := by
      intro b o e
      refine hidT_get (KX b o e) ?_
      cases q : H b with
      | none => rfl
      | some u =>
        obtain ⟨e', kn⟩ := hA b (by rw [q]; simp)
        subst e'
        rw [kn] at e
        cases e
    have hM : Mod K mg (hidT s1.heap H) := ⟨K_hid, ns_hid hns, ⟨mb, ns_hid hb, hbb⟩, let ⟨mc, h1, h2⟩ := hlim; ⟨mc, ns_hid h1, h2⟩⟩
    have e0 : Env0 P w K mg (hidT s1.heap H) callerA [] s1 H :=
      ⟨rfl, hM, fun b o e => of_hidT e, Nat.le_of_eq (hidT_size _ _), trivial, fun b hb => absurd (show b ∈ ([] : List Addr) from hb) (by simp), hok, .of_eq hg⟩
    refine codeAny_mono ((F _ K_hid (ns_hid hns)).run callerA [] s1 H ⟨[.ref a], []⟩ [.ref a] [.ref a] _ _ rfl hr e0 (hbind s1 (.ref a)) (.cons rfl .nil) (hsp H hO hS)) ?_
    intro r s' h
    cases r with
    | error e => exact False.elim h
    | ok fl =>
      cases fl with
      | next => exact False.elim h
      | brk => exact False.elim h
      | cont => exact False.elim h
      | ret u =>
        obtain ⟨v, H', os, bare, un, hok', r', q⟩ := h
        have q' : v = .bl true := q
        subst q'
        obtain rfl : u = Value.bool true := r'
        refine ⟨rfl, PySem.OldK.of_keep fun b o e => ?_, os, bare⟩
        cases q : H b with
        | none => exact un.keep b o e q (by intro z; exact absurd (show b ∈ ([] : List Addr) from z) (by simp)) (by simp)
        | some u =>
          rcases hO b with z | ⟨ob, xs, z⟩
          · rw [q] at z
            cases z
          · obtain ⟨e1, _⟩ := hok b _ z
            obtain ⟨e2, _⟩ := hok' b _ (un.frzs b ob _ z)
            rw [e] at e1
            cases e1
            exact e2
  cases hk : K.lookup a with
  | some o =>
    have e := KX a o hk
    rw [ha] at e
    cases e
    exact fin (fun _ => none) (fun _ => .inl rfl) (.inr ⟨_, vs.toArray, _, hk, rfl, rfl, rfl, by rw [List.size_toArray, lenV]; exact hl, by simpa using rv⟩) (fun b u z => absurd (show (none : Option HO) = some u from z) (by simp)) fun b z => absurd rfl z
  | none =>
    refine fin (fun b => if b = a then some (.frz { cls := .type "list", data := .seq vs.toArray } (.lst (ns.map V.int))) else none) (fun b => ?_) (.inl (.inr ⟨{ cls := .type "list", data := .seq vs.toArray }, if_pos rfl⟩)) (fun b u z => ?_) fun b z => ?_
    · by_cases hb : b = a
      · exact .inr ⟨_, _, if_pos hb⟩
      · exact .inl (if_neg hb)
    · by_cases hb : b = a
      · have z' := (if_pos hb).symm.trans z
        cases z'
        subst hb
        exact ⟨ha, by rw [List.length_map]; exact hl, vs, _, rv, ha⟩
      · have z' := (if_neg hb).symm.trans z
        cases z'
    · by_cases hb : b = a
      · exact ⟨hb, hk⟩
      · exact absurd (if_neg hb) z
theorem walk_ofG {l : PySem.W.OpenLaw} {n k : Nat} {q : Program} {loose : List Str} {XP : (Str → Option Value) → Heap → Prop} {YP : World → Heap → Prop} {d : DefRec} {K : Params → PySem.W.Frag} {sp : PySem.W.Frag → Sp} {x : Str}
    (hn : l.most = some n) (hn2 : n ≤ sizeLine) (hdf : d.params.defaults = []) (hr : Room k callerA) (hY : ∀ (w : World) (h : Heap), YP w h → (K w.params).In h)
    (F : ∀ (w : World) (mg : Str → Option Value) (fa : Addr) (h : Heap), (K w.params).In h → h.Ns mainGlobals mg → mg d.name = some (.ref fa) →
      ∃ fd : FuncData, (∀ (s : Shared) (u : Value), BindsTo s fd ⟨[u], []⟩ [(x, u)]) ∧
        ∀ base : Heap, (K w.params).In base → base.Ns mainGlobals mg → FnG l.prog w (K w.params) mg base CX0 k fa fd [x] (sp (K w.params)))
    (hsp : ∀ (K : PySem.W.Frag) (H : Hp) (a : Addr) (ns : List Int), ns.length ≤ n → Only H → SqL K H a (ns.map V.int) → sp K [.ref a] H (fun v _ => v = .bl true) fun _ _ _ => False) :
    PySem.W.WalkO q loose XP YP l.row.toRowW d [] (fun f vs => PySem.call f vs) := by
  refine Att.attach_call hn hdf ?_
  intro w s0 s1 mg mb fa o pm cd doc a vs ns G Y ho hd hcd hmg hobj hints hlen hg
  have KX := hY w _ Y
  obtain ⟨fd, hb, hF⟩ := F w mg fa _ KX G.T.g hmg
  exact call_headG KX G.T.g G.T.b G.T.builtins G.T.nolimit hg hobj hints (Nat.le_trans hlen hn2) hr hF hb fun H hO hS => hsp _ H a ns hlen hO hS
end SmR
end
section
set_option Elab.async false
set_option linter.all false
set_option maxRecDepth 100000
set_option maxHeartbeats 4000000
namespace Sm
open PySem PySem.Spec PyProof.Rows L2 SmR
/-! ### the text -/
def topS (i : Nat) : Stmt := PySem.Challenge.pw_smallchange_k56_whole_prices_bound_ratio.main.body.getD i (.Pass ⟨0, 0, 0, 0⟩)
abbrev sIsWhole : Stmt := topS 1
abbrev nIsWhole : List Str := ["value"]
theorem scIsWhole : FnScope nIsWhole ["value"] (defScope sIsWhole) := ⟨rfl, rfl, rfl, by decide +kernel, rfl, by decide +kernel, by decide +kernel⟩
abbrev sIsBetween : Stmt := topS 2
abbrev nIsBetween : List Str := ["value", "low", "high"]
theorem scIsBetween : FnScope nIsBetween ["value", "low", "high"] (defScope sIsBetween) := ⟨rfl, rfl, rfl, by decide +kernel, rfl, by decide +kernel, by decide +kernel⟩
abbrev sDivisor : Stmt := topS 10
abbrev nDivisor : List Str := ["one", "other"]
theorem scDivisor : FnScope nDivisor ["one", "other"] (defScope sDivisor) := ⟨rfl, rfl, rfl, by decide +kernel, rfl, by decide +kernel, by decide +kernel⟩
abbrev sRequireKind : Stmt := topS 11
abbrev nRequireKind : List Str := ["board", "kind"]
theorem scRequireKind : FnScope nRequireKind ["board", "kind"] (defScope sRequireKind) := ⟨rfl, rfl, rfl, by decide +kernel, rfl, by decide +kernel, by decide +kernel⟩
abbrev sLowest : Stmt := topS 12
abbrev nLowest : List Str := ["num", "den", "by"]
theorem scLowest : FnScope nLowest ["num", "den"] (defScope sLowest) := ⟨rfl, rfl, rfl, by decide +kernel, rfl, by decide +kernel, by decide +kernel⟩
abbrev sIsGreater : Stmt := topS 13
abbrev nIsGreater : List Str := ["one", "other"]
theorem scIsGreater : FnScope nIsGreater ["one", "other"] (defScope sIsGreater) := ⟨rfl, rfl, rfl, by decide +kernel, rfl, by decide +kernel, by decide +kernel⟩
abbrev sRatioOf : Stmt := topS 14
abbrev nRatioOf : List Str := ["board", "indexes", "num", "den", "index"]
theorem scRatioOf : FnScope nRatioOf ["board", "indexes"] (defScope sRatioOf) := ⟨rfl, rfl, rfl, by decide +kernel, rfl, by decide +kernel, by decide +kernel⟩
abbrev sGiving : Stmt := topS 15
abbrev nGiving : List Str := ["board", "kind", "index", "offer"]
theorem scGiving : FnScope nGiving ["board", "kind"] (defScope sGiving) := ⟨rfl, rfl, rfl, by decide +kernel, rfl, by decide +kernel, by decide +kernel⟩
abbrev sBestSteps : Stmt := topS 16
abbrev nBestSteps : List Str := ["board", "kind", "found", "index", "goal"]
theorem scBestSteps : FnScope nBestSteps ["board", "kind"] (defScope sBestSteps) := ⟨rfl, rfl, rfl, by decide +kernel, rfl, by decide +kernel, by decide +kernel⟩
abbrev sReachedFrom : Stmt := topS 17
abbrev nReachedFrom : List Str := ["board", "kind", "found", "at", "index"]
theorem scReachedFrom : FnScope nReachedFrom ["board", "kind"] (defScope sReachedFrom) := ⟨rfl, rfl, rfl, by decide +kernel, rfl, by decide +kernel, by decide +kernel⟩
abbrev sTrailsFrom : Stmt := topS 18
abbrev nTrailsFrom : List Str := ["board", "kind", "found", "waiting", "at", "trail", "kinds", "index"]
theorem scTrailsFrom : FnScope nTrailsFrom ["board", "kind"] (defScope sTrailsFrom) := ⟨rfl, rfl, rfl, by decide +kernel, rfl, by decide +kernel, by decide +kernel⟩
abbrev sEndOf : Stmt := topS 19
abbrev nEndOf : List Str := ["board", "kind", "trail"]
theorem scEndOf : FnScope nEndOf ["board", "kind", "trail"] (defScope sEndOf) := ⟨rfl, rfl, rfl, by decide +kernel, rfl, by decide +kernel, by decide +kernel⟩
abbrev sLoopsAt : Stmt := topS 20
abbrev nLoopsAt : List Str := ["board", "kind", "found", "trail", "index"]
theorem scLoopsAt : FnScope nLoopsAt ["board", "kind"] (defScope sLoopsAt) := ⟨rfl, rfl, rfl, by decide +kernel, rfl, by decide +kernel, by decide +kernel⟩
abbrev sGains : Stmt := topS 21
abbrev nGains : List Str := ["board", "indexes", "num", "den"]
theorem scGains : FnScope nGains ["board", "indexes"] (defScope sGains) := ⟨rfl, rfl, rfl, by decide +kernel, rfl, by decide +kernel, by decide +kernel⟩
abbrev sGainingLoop : Stmt := topS 22
abbrev nGainingLoop : List Str := ["board", "kinds", "kind", "loop", "first"]
theorem scGainingLoop : FnScope nGainingLoop ["board", "kinds"] (defScope sGainingLoop) := ⟨rfl, rfl, rfl, by decide +kernel, rfl, by decide +kernel, by decide +kernel⟩
abbrev sPriceOf : Stmt := topS 23
abbrev nPriceOf : List Str := ["board", "kind", "best", "trail", "ratio_here"]
theorem scPriceOf : FnScope nPriceOf ["board", "kind"] (defScope sPriceOf) := ⟨rfl, rfl, rfl, by decide +kernel, rfl, by decide +kernel, by decide +kernel⟩
abbrev sScaled : Stmt := topS 24
abbrev nScaled : List Str := ["fractions", "whole", "num", "den", "some", "by", "number"]
theorem scScaled : FnScope nScaled ["fractions"] (defScope sScaled) := ⟨rfl, rfl, rfl, by decide +kernel, rfl, by decide +kernel, by decide +kernel⟩
abbrev sWorths : Stmt := topS 25
abbrev nWorths : List Str := ["board", "loop", "kind"]
theorem scWorths : FnScope nWorths ["board"] (defScope sWorths) := ⟨rfl, rfl, rfl, by decide +kernel, rfl, by decide +kernel, by decide +kernel⟩
abbrev sLeads : Stmt := topS 26
abbrev nLeads : List Str := ["board", "one", "other"]
theorem scLeads : FnScope nLeads ["board", "one", "other"] (defScope sLeads) := ⟨rfl, rfl, rfl, by decide +kernel, rfl, by decide +kernel, by decide +kernel⟩
abbrev sBestBetween : Stmt := topS 27
abbrev nBestBetween : List Str := ["board", "one", "other", "kinds", "best", "trail", "kind", "found"]
theorem scBestBetween : FnScope nBestBetween ["board", "one", "other"] (defScope sBestBetween) := ⟨rfl, rfl, rfl, by decide +kernel, rfl, by decide +kernel, by decide +kernel⟩
abbrev sBestTrail : Stmt := topS 28
abbrev nBestTrail : List Str := ["board", "one", "other"]
theorem scBestTrail : FnScope nBestTrail ["board", "one", "other"] (defScope sBestTrail) := ⟨rfl, rfl, rfl, by decide +kernel, rfl, by decide +kernel, by decide +kernel⟩
abbrev sRatio : Stmt := topS 29
abbrev nRatio : List Str := ["board", "one", "other", "trail"]
theorem scRatio : FnScope nRatio ["board", "one", "other"] (defScope sRatio) := ⟨rfl, rfl, rfl, by decide +kernel, rfl, by decide +kernel, by decide +kernel⟩
abbrev sLawDeck : Stmt := topS 31
abbrev nLawDeck : List Str := ["_law_script", "_law_cell"]
theorem scLawDeck : FnScope nLawDeck ["_law_script"] (defScope sLawDeck) := ⟨rfl, rfl, rfl, by decide +kernel, rfl, by decide +kernel, by decide +kernel⟩
abbrev sLawDraw : Stmt := topS 32
abbrev nLawDraw : List Str := ["_law_deck_here", "_law_many", "_law_place", "_law_cell", "_law_mixed"]
theorem scLawDraw : FnScope nLawDraw ["_law_deck_here", "_law_many"] (defScope sLawDraw) := ⟨rfl, rfl, rfl, by decide +kernel, rfl, by decide +kernel, by decide +kernel⟩
abbrev sLawBoard : Stmt := topS 33
abbrev nLawBoard : List Str := ["_law_deck_here", "_law_kinds", "_law_many", "_law_upto", "_law_found", "_law_turn", "_law_a", "_law_b"]
theorem scLawBoard : FnScope nLawBoard ["_law_deck_here", "_law_kinds", "_law_many", "_law_upto"] (defScope sLawBoard) := ⟨rfl, rfl, rfl, by decide +kernel, rfl, by decide +kernel, by decide +kernel⟩
abbrev sLawRing : Stmt := topS 34
abbrev nLawRing : List Str := ["_law_deck_here", "_law_kinds", "_law_ring_here", "_law_a", "_law_x", "_law_offers", "_law_offer"]
theorem scLawRing : FnScope nLawRing ["_law_deck_here", "_law_kinds"] (defScope sLawRing) := ⟨rfl, rfl, rfl, by decide +kernel, rfl, by decide +kernel, by decide +kernel⟩
abbrev sLawFair : Stmt := topS 35
abbrev nLawFair : List Str := ["_law_deck_here", "_law_kinds", "_law_many", "_law_upto", "_law_prices", "_law_found", "_law_turn", "_law_a", "_law_b", "_law_x", "_law_y", "_law_kind"]
theorem scLawFair : FnScope nLawFair ["_law_deck_here", "_law_kinds", "_law_many", "_law_upto"] (defScope sLawFair) := ⟨rfl, rfl, rfl, by decide +kernel, rfl, by decide +kernel, by decide +kernel⟩
abbrev sLawSome : Stmt := topS 36
abbrev nLawSome : List Str := ["_law_deck_here", "_law_turn", "_law_kinds"]
theorem scLawSome : FnScope nLawSome ["_law_deck_here", "_law_turn"] (defScope sLawSome) := ⟨rfl, rfl, rfl, by decide +kernel, rfl, by decide +kernel, by decide +kernel⟩
abbrev sLawMore : Stmt := topS 37
abbrev nLawMore : List Str := ["_law_one", "_law_other"]
theorem scLawMore : FnScope nLawMore ["_law_one", "_law_other"] (defScope sLawMore) := ⟨rfl, rfl, rfl, by decide +kernel, rfl, by decide +kernel, by decide +kernel⟩
abbrev sLawProduct : Stmt := topS 38
abbrev nLawProduct : List Str := ["_law_board_here", "_law_indexes", "_law_item", "_law_found", "_law_index"]
theorem scLawProduct : FnScope nLawProduct ["_law_board_here", "_law_indexes", "_law_item"] (defScope sLawProduct) := ⟨rfl, rfl, rfl, by decide +kernel, rfl, by decide +kernel, by decide +kernel⟩
abbrev sLawTimes : Stmt := topS 39
abbrev nLawTimes : List Str := ["_law_one", "_law_other"]
theorem scLawTimes : FnScope nLawTimes ["_law_one", "_law_other"] (defScope sLawTimes) := ⟨rfl, rfl, rfl, by decide +kernel, rfl, by decide +kernel, by decide +kernel⟩
abbrev sLawPair : Stmt := topS 40
abbrev nLawPair : List Str := ["_law_board_here", "_law_prices", "_law_table", "_law_a", "_law_c", "_law_here", "_law_trail"]
theorem scLawPair : FnScope nLawPair ["_law_board_here", "_law_prices", "_law_table", "_law_a", "_law_c"] (defScope sLawPair) := ⟨rfl, rfl, rfl, by decide +kernel, rfl, by decide +kernel, by decide +kernel⟩
abbrev sLawThirds : Stmt := topS 41
abbrev nLawThirds : List Str := ["_law_board_here", "_law_table", "_law_a", "_law_c", "_law_b", "_law_one", "_law_x", "_law_other", "_law_y"]
theorem scLawThirds : FnScope nLawThirds ["_law_board_here", "_law_table", "_law_a", "_law_c"] (defScope sLawThirds) := ⟨rfl, rfl, rfl, by decide +kernel, rfl, by decide +kernel, by decide +kernel⟩
abbrev sLawRight : Stmt := topS 42
abbrev nLawRight : List Str := ["_law_board_here", "_law_told", "_law_table", "_law_a", "_law_c"]
theorem scLawRight : FnScope nLawRight ["_law_board_here"] (defScope sLawRight) := ⟨rfl, rfl, rfl, by decide +kernel, rfl, by decide +kernel, by decide +kernel⟩
abbrev sLaw : Stmt := topS 43
abbrev nLaw : List Str := ["_law_script", "_law_deck_here", "_law_boards", "_law_turn", "_law_board_here"]
theorem scLaw : FnScope nLaw ["_law_script"] (defScope sLaw) := ⟨rfl, rfl, rfl, by decide +kernel, rfl, by decide +kernel, by decide +kernel⟩
/-! ### a def of the top, its promise, its call -/
def Dfn (K : PySem.W.Frag) (mg : Str → Option Value) (x : Str) (st : Stmt) (ps : List Str) : Prop := ∃ f fd, Fun K x x st f fd ∧ Binds K fd ps [] ∧ mg x = some (.ref f)
def Ok (P : Program) (w : World) (K : PySem.W.Frag) (mg : Str → Option Value) (base : Heap) (k : Nat) (x : Str) (ps : List Str) (sp : Sp) : Prop :=
  ∃ f fd, FnOk P w K mg base CX0 k f fd ps sp ∧ PySem.W.keepIn K (.ref f) = true ∧ Binds K fd ps [] ∧ mg x = some (.ref f)
def OkG (P : Program) (w : World) (K : PySem.W.Frag) (mg : Str → Option Value) (base : Heap) (k : Nat) (x : Str) (ps : List Str) (sp : Sp) : Prop :=
  ∃ f fd, FnG P w K mg base CX0 k f fd ps sp ∧ PySem.W.keepIn K (.ref f) = true ∧ Binds K fd ps [] ∧ mg x = some (.ref f)
theorem pe_ok {X : Cx} {k : Nat} {x : Str} {ps : List Str} {sp : Sp} {p pos : Pos} {e : Expr} {es : List Expr} {t : TA} (G : Ok X.prog X.w X.K X.mg X.base k x ps sp) (hr : Room k X.A) (hg : Gl X x)
    (ha : PA X (e :: es) t) (hdb : (x == ("__debug__" : Str)) = false := by decide) (he : starEach (e :: es) X.env = (false, eval e X.env) :: starEach es X.env := by rfl) (hpl : (backTo pos (starEach es X.env)).any (·.1) = false := by rfl) :
    PE X (.Call (.Name x p) (e :: es) [] pos) (tCall sp [] E0 t) := by
  obtain ⟨f, fd, F, kp, b, g⟩ := G
  exact pe_call F hr hg g kp b .nil pass0 ha hdb he hpl
theorem pe_okG {X : Cx} {k : Nat} {x : Str} {ps : List Str} {sp : Sp} {p pos : Pos} {e : Expr} {es : List Expr} {t : TA} (G : OkG X.prog X.w X.K X.mg X.base k x ps sp) (hgd : X.A.guards = some []) (hr : Room k X.A) (hg : Gl X x)
    (ha : PA X (e :: es) t) (hdb : (x == ("__debug__" : Str)) = false := by decide) (he : starEach (e :: es) X.env = (false, eval e X.env) :: starEach es X.env := by rfl) (hpl : (backTo pos (starEach es X.env)).any (·.1) = false := by rfl) :
    PE X (.Call (.Name x p) (e :: es) [] pos) (tCall sp [] E0 t) := by
  obtain ⟨f, fd, F, kp, b, g⟩ := G
  exact pe_callG F hgd hr hg g kp b pass0 ha hdb he hpl
theorem ok_by {P : Program} {w : World} {K : PySem.W.Frag} {mg : Str → Option Value} {base : Heap} {x : Str} {st : Stmt} {N ps : List Str} {k : Nat} {sp : Sp} (D : Dfn K mg x st ps) (S : FnScope N ps (defScope st)) (len : ∀ vs H Q E, sp vs H Q E → vs.length = ps.length)
    (hbody : ∀ (f : Addr) (cdv : Value) (A : Around) (outer : List Env) (s : Shared) (H : Hp) (vs : List V) (Q : VK) (E : XK), Room k (A.deeper (envOfC x (defScope st) s.heap.objs.size f cdv)) → sp vs H Q E →
      ∃ t, PSs (cxOf CX0 P w K mg base N x (defScope st) f cdv A outer s H E).nox (defBody st) t ∧ t { nx := fun _ H' => Q .non H', rt := Q } (start N vs) H) : Ok P w K mg base (k + 1) x ps sp := by
  obtain ⟨f, fd, F, b, g⟩ := D
  exact ⟨f, fd, F.ok S len (hbody f), F.kp, b, g⟩
theorem ok_byG {P : Program} {w : World} {K : PySem.W.Frag} {mg : Str → Option Value} {base : Heap} {x : Str} {st : Stmt} {N ps : List Str} {k : Nat} {sp : Sp} (D : Dfn K mg x st ps) (S : FnScope N ps (defScope st)) (len : ∀ vs H Q E, sp vs H Q E → vs.length = ps.length)
    (hbody : ∀ (f : Addr) (cdv : Value) (A : Around) (outer : List Env) (s : Shared) (H : Hp) (vs : List V) (Q : VK) (E : XK), (A.deeper (envOfC x (defScope st) s.heap.objs.size f cdv)).guards = some [] → Room k (A.deeper (envOfC x (defScope st) s.heap.objs.size f cdv)) → sp vs H Q E →
      ∃ t, PSs (cxOf CX0 P w K mg base N x (defScope st) f cdv A outer s H E).nox (defBody st) t ∧ t { nx := fun _ H' => Q .non H', rt := Q } (start N vs) H) : OkG P w K mg base (k + 1) x ps sp := by
  obtain ⟨f, fd, F, b, g⟩ := D
  exact ⟨f, fd, fun_okG F S len (hbody f), F.kp, b, g⟩

/-! ### rules by the written part K (within a comprehension) -/
theorem ixT {X : Cx} {K : PySem.W.Frag} (h : X.K = K) : IxR X (rIxT K) := by
  subst h
  exact ix_tup
theorem ixL {X : Cx} {K : PySem.W.Frag} (h : X.K = K) : IxR X (rIxL K) := by
  subst h
  exact ix_list
theorem opIn {X : Cx} {K : PySem.W.Frag} (h : X.K = K) : OpR X (compareOp .In) (rIn K false) := by
  subst h
  exact op_in_seq
/-! ### what stands in the heap -/
def nv (n : Nat) : V := .int (n : Int)
def ov (o : Off) : List V := [.int o.a, .int o.x, .int o.b, .int o.y]
theorem same_seqT {K : PySem.W.Frag} {H H' : Hp} {a : Addr} {xs : List V} (e : Same H H') (h : SqT K H a xs) : SqT K H' a xs := by
  rcases h with (h | ⟨o, h⟩) | h
  · exact .inl (.inl (e _ _ h))
  · exact .inl (.inr ⟨o, e _ _ h⟩)
  · exact .inr h
theorem same_upd {H : Hp} {p : Addr} {o : HO} (h : H p = none) : Same H (upd H p o) := fun b x e => by
  rw [upd_ne (ne_of_none e h)]
  exact e
/-- a write to an object that was not there -/
theorem same_put {H H1 : Hp} {p : Addr} {o : HO} (s : Same H H1) (h : H p = none) : Same H (upd H1 p o) := fun b x e => by
  rw [upd_ne (ne_of_none e h)]
  exact s b x e
def BoardAt (K : PySem.W.Frag) (H : Hp) (p : Addr) (k : Int) (os : List Off) : Prop :=
  ∃ u vs, SqT K H p [.int k, .ref u] ∧ SqT K H u vs ∧ vs.length = os.length ∧ ∀ i, i < os.length → ∃ r, vs[i]? = some (.ref r) ∧ SqT K H r (ov (off os i))
theorem BoardAt.same {K : PySem.W.Frag} {H H' : Hp} {p : Addr} {k : Int} {os : List Off} (e : Same H H') (b : BoardAt K H p k os) : BoardAt K H' p k os := by
  obtain ⟨u, vs, h1, h2, h3, h4⟩ := b
  refine ⟨u, vs, same_seqT e h1, same_seqT e h2, h3, fun i hi => ?_⟩
  obtain ⟨r, e1, e2⟩ := h4 i hi
  exact ⟨r, e1, same_seqT e e2⟩
/-- a trail: a tuple of indexes -/
def TrAt (K : PySem.W.Frag) (H : Hp) (p : Addr) (T : List Nat) : Prop := SqT K H p (T.map nv)
/-- a list of trails -/
def TrsAt (K : PySem.W.Frag) (H : Hp) (vs : List V) (TS : List (List Nat)) : Prop := vs.length = TS.length ∧ ∀ (i : Nat) (T : List Nat), TS[i]? = some T → ∃ p, vs[i]? = some (.ref p) ∧ TrAt K H p T
theorem TrsAt.same {K : PySem.W.Frag} {H H' : Hp} {vs : List V} {TS : List (List Nat)} (e : Same H H') (b : TrsAt K H vs TS) : TrsAt K H' vs TS :=
  ⟨b.1, fun i T h => let ⟨p, e1, e2⟩ := b.2 i T h; ⟨p, e1, same_seqT e e2⟩⟩
/-! ### readings that come again and again -/
theorem yesT {σ : L2.St} {H : Hp} {A B : Hp → Prop} (h : A H) : tYes σ H (fun b H3 => if b = true then A H3 else B H3) := by
  show (if true = true then A H else B H)
  exact iteT h
section
variable {K : PySem.W.Frag} {σ : L2.St} {H : Hp} {Q : VK} {p : Addr} {k : Int} {os : List Off}
abbrev tB (K : PySem.W.Frag) (b : Nat) (j : Int) : TE := tOp (rIxT K) (tVar b) (tC (.int j))
/-- board[0] -/
theorem rd_k {b : Nat} (hb : σ[b]? = some (some (.ref p))) (B : BoardAt K H p k os) (q : Q (.int k) H) : tB K b 0 σ H Q := by
  obtain ⟨u, vs, h1, _⟩ := B
  exact ⟨_, hb, p, _, 0, .int k, rfl, rfl, h1, atI_nat (j := 0) rfl, q⟩
/-- board[1][t][j] -/
theorem rd_off {b : Nat} {ti : TE} {j i : Nat} {v : V} (hb : σ[b]? = some (some (.ref p))) (B : BoardAt K H p k os) (hi : i < os.length) (hv : (ov (off os i))[j]? = some v)
    (ht : ∀ R : VK, R (nv i) H → ti σ H R) (q : Q v H) : tOp (rIxT K) (tOp (rIxT K) (tB K b 1) ti) (tC (.int (j : Int))) σ H Q := by
  obtain ⟨u, vs, h1, h2, h3, h4⟩ := B
  obtain ⟨r, e1, e2⟩ := h4 i hi
  refine ⟨_, hb, p, _, 1, .ref u, rfl, rfl, h1, atI_nat (j := 1) rfl, ?_⟩
  exact ht _ ⟨u, _, (i : Int), .ref r, rfl, rfl, h2, atI_nat e1, r, _, (j : Int), v, rfl, rfl, e2, atI_nat hv, q⟩
theorem rd_var {n : Nat} {v : V} (h : σ[n]? = some (some v)) : ∀ R : VK, R v H → tVar n σ H R := fun R r => ⟨v, h, r⟩
/-- t[j] of a tuple -/
theorem rd_tup {n : Nat} {a : Addr} {j : Nat} {xs : List V} {v : V} (hn : σ[n]? = some (some (.ref a))) (S : SqT K H a xs) (hv : xs[j]? = some v) (q : Q v H) : tOp (rIxT K) (tVar n) (tC (.int (j : Int))) σ H Q :=
  ⟨_, hn, a, xs, (j : Int), v, rfl, rfl, S, atI_nat hv, q⟩
end
end Sm
end
section
set_option Elab.async false
set_option linter.all false
set_option maxRecDepth 100000
set_option maxHeartbeats 4000000
namespace Sm
open PySem PySem.Spec PyProof.Rows L2 SmR
section
variable {P : Program} {w : World} {K : PySem.W.Frag} {mg : Str → Option Value} {base : Heap}
/-! ### is_whole, is_between, require_kind -/
def spWhole : Sp := fun vs H Q _ => ∃ v : Int, vs = [.int v] ∧ Q (.bl true) H
theorem ok_IsWhole (D : Dfn K mg "is_whole" sIsWhole ["value"]) (misinstance : mg "isinstance" = none) (mint : mg "int" = none) (mbool : mg "bool" = none) : Ok P w K mg base 1 "is_whole" ["value"] spWhole := by
  refine ok_by D scIsWhole (fun vs H Q E h => ?_) (fun f cdv A outer s H vs Q E hr h => ?_)
  · obtain ⟨v, rfl, _⟩ := h
    rfl
  · obtain ⟨v, rfl, q⟩ := h
    refine ⟨_, (pss_one (ps_ret (pe_and (pe_callB call_isi (by rfl) misinstance (by decide +kernel) (pa_cons (pv 0) (pa_cons (pe_bltn (v := .ty "int") (by rfl) mint (by decide +kernel) rfl) pa_nil))) (pe_one (pe_not (pe_callB call_isi (by rfl) misinstance (by decide +kernel) (pa_cons (pv 0) (pa_cons (pe_bltn (v := .ty "bool") (by rfl) mbool (by decide +kernel) rfl) pa_nil)))))))), ?_⟩
    refine ⟨_, rfl, _, _, _, _, true, rfl, .ty "int", .base (.int v), kit_ty (by decide +kernel), true, rfl, iteT ?_⟩
    refine ⟨_, rfl, _, _, _, _, false, rfl, .ty "bool", .base (.int v), kit_ty (by decide +kernel), false, rfl, q⟩
def spBetween : Sp := fun vs H Q _ => ∃ v lo hi : Int, vs = [.int v, .int lo, .int hi] ∧ lo ≤ v ∧ v ≤ hi ∧ Q (.bl true) H
theorem ok_IsBetween (D : Dfn K mg "is_between" sIsBetween ["value", "low", "high"]) (GIsWhole : Ok P w K mg base 1 "is_whole" ["value"] spWhole) : Ok P w K mg base 2 "is_between" ["value", "low", "high"] spBetween := by
  refine ok_by D scIsBetween (fun vs H Q E h => ?_) (fun f cdv A outer s H vs Q E hr h => ?_)
  · obtain ⟨v, lo, hi, rfl, _⟩ := h
    rfl
  · obtain ⟨v, lo, hi, rfl, h1, h2, q⟩ := h
    refine ⟨_, (pss_one (ps_ret (pe_and (pe_ok GIsWhole (hr.mono (by decide)) (by rfl) (pa_cons (pv 0) pa_nil)) (pe_one (pe_chain op_le op_le (pv 1) (pv 0) (pv 2)))))), ?_⟩
    refine ⟨_, rfl, v, rfl, true, rfl, iteT ?_⟩
    refine ⟨_, rfl, _, rfl, _, _, rfl, rfl, _, rfl, ?_⟩
    rw [decide_eq_true h1]
    refine iteT ⟨_, rfl, _, _, rfl, rfl, ?_⟩
    show Q (.bl (decide (v ≤ hi))) H
    rw [decide_eq_true h2]
    exact q
def spReq (K : PySem.W.Frag) : Sp := fun vs H Q _ => ∃ (p : Addr) (k c : Int) (os : List Off), vs = [.ref p, .int c] ∧ BoardAt K H p k os ∧ 0 ≤ c ∧ c < k ∧ Q .non H
theorem ok_RequireKind (D : Dfn K mg "require_kind" sRequireKind ["board", "kind"]) (GIsBetween : Ok P w K mg base 2 "is_between" ["value", "low", "high"] spBetween) : Ok P w K mg base 3 "require_kind" ["board", "kind"] (spReq K) := by
  refine ok_by D scRequireKind (fun vs H Q E h => ?_) (fun f cdv A outer s H vs Q E hr h => ?_)
  · obtain ⟨p, k, c, os, rfl, _⟩ := h
    rfl
  · obtain ⟨p, k, c, os, rfl, B, h1, h2, q⟩ := h
    refine ⟨_, (pss_one (ps_if (pt_not (pt_val (pe_ok GIsBetween (hr.mono (by decide)) (by rfl) (pa_cons (pv 1) (pa_cons pe_int (pa_cons (pe_op op_sub (pe_ix ix_tup (pv 0) pe_int (fun _ _ => rfl)) pe_int) pa_nil)))))) (pss_one (ps_never)) pss_nil)), ?_⟩
    refine ⟨_, rfl, rd_k rfl B ⟨_, _, rfl, rfl, c, 0, k - 1, rfl, h1, by omega, true, rfl, iteF q⟩⟩
/-! ### divisor, lowest, is_greater -/
theorem gcd_turn {a b : Int} (h : b ≠ 0) : Int.gcd b (a % b) = Int.gcd a b := by
  rw [Int.emod_def, Int.gcd_comm a b]
  simp
def spDiv : Sp := fun vs H Q _ => ∃ a b : Int, vs = [.int a, .int b] ∧ 0 ≤ a ∧ 0 ≤ b ∧ Q (.int (Int.gcd a b : Nat)) H
theorem ok_Divisor (D : Dfn K mg "divisor" sDivisor ["one", "other"]) : Ok P w K mg base 1 "divisor" ["one", "other"] spDiv := by
  refine ok_by D scDivisor (fun vs H Q E h => ?_) (fun f cdv A outer s H vs Q E hr h => ?_)
  · obtain ⟨a, b, rfl, _⟩ := h
    rfl
  · obtain ⟨a, b, rfl, h1, h2, q⟩ := h
    refine ⟨_, (pss_cons (ps_while PassesOwn.never (pt_cmpR op_ne (pv 1) pe_int (nomark _))
      (pss_one (ps_par (i := 0) (j := 1) (by rfl) scDivisor.nd rfl rfl (by decide) rfl rfl (pa_cons (pv 1) (pa_cons (pe_op op_mod (pv 0) (pv 1)) pa_nil)) (by rfl))))
    (pss_one (ps_ret (pv 0)))), ?_⟩
    refine while_by (fun σ H' => ∃ x y : Int, σ = [some (.int x), some (.int y)] ∧ 0 ≤ x ∧ 0 ≤ y ∧ Int.gcd x y = Int.gcd a b ∧ H' = H) (fun σ _ => match σ with | [_, some (.int y)] => y.toNat | _ => 0) ⟨a, b, rfl, h1, h2, rfl, rfl⟩ ?_ ?_
    · rintro σ H' ⟨x, y, rfl, hx, hy, hg, rfl⟩
      refine ⟨_, rfl, rfl, _, rfl, ?_⟩
      by_cases hz : y = 0
      · subst hz
        refine iteNS rfl ⟨_, rfl, ?_⟩
        have e : ((Int.gcd a b : Nat) : Int) = x := by rw [← hg, Int.gcd_zero_right, Int.natAbs_of_nonneg hx]
        rw [e] at q
        exact q
      · have e : (!decide (V.int y = V.int 0)) = true := by
          rw [decide_eq_false (fun z => hz (V.int.inj z))]
          rfl
        rw [e]
        refine iteT ⟨_, rfl, _, rfl, _, rfl, _, _, rfl, rfl, (by show (0 : Int) < y; omega), _, _, rfl, ⟨y, x % y, rfl, hy, Int.emod_nonneg _ hz, (gcd_turn hz).trans hg, rfl⟩, ?_⟩
        show (x % y).toNat < y.toNat
        have := Int.emod_lt_of_pos x (show 0 < y by omega)
        have := Int.emod_nonneg x hz
        omega
    · rintro σ H Q Q' hq ⟨v, e, r⟩
      obtain ⟨h1, c, h2, h3⟩ := r
      exact ⟨v, e, h1, c, h2, hq _ _ h3⟩
/-- num and den in lowest terms -/
def lown (n d : Int) : Int := n / (Int.gcd n d : Nat)
def lowd (n d : Int) : Int := d / (Int.gcd n d : Nat)
def frac (n d : Int) : HO := .tup [.int (lown n d), .int (lowd n d)]
theorem gcd_pos {n d : Int} (h : 0 < d) : (0 : Int) < (Int.gcd n d : Nat) := by
  have : 0 < Int.gcd n d := Nat.pos_of_ne_zero fun z => by
    have := (Int.gcd_eq_zero_iff.mp z).2
    omega
  omega
theorem gcd_le {n d : Int} (h : 0 < d) : ((Int.gcd n d : Nat) : Int) ≤ d := Int.le_of_dvd h (Int.gcd_dvd_right ..)
theorem low_spec {n d : Int} (h : 0 < d) : lown n d * (Int.gcd n d : Nat) = n ∧ lowd n d * (Int.gcd n d : Nat) = d :=
  ⟨Int.ediv_mul_cancel (Int.gcd_dvd_left ..), Int.ediv_mul_cancel (Int.gcd_dvd_right ..)⟩
theorem lowd_pos {n d : Int} (h : 0 < d) : 0 < lowd n d := by
  have := (low_spec (n := n) h).2
  have := gcd_pos (n := n) h
  refine Int.pos_of_mul_pos_left (b := ((Int.gcd n d : Nat) : Int)) ?_ (by omega)
  omega
def spLow : Sp := fun vs H Q _ => ∃ n d : Int, vs = [.int n, .int d] ∧ 0 ≤ n ∧ 0 < d ∧ d < 2 ^ 64 ∧ ∀ p, H p = none → Q (.ref p) (upd H p (frac n d))
theorem ok_Lowest (D : Dfn K mg "lowest" sLowest ["num", "den"]) (GDivisor : Ok P w K mg base 1 "divisor" ["one", "other"] spDiv) : Ok P w K mg base 2 "lowest" ["num", "den"] spLow := by
  refine ok_by D scLowest (fun vs H Q E h => ?_) (fun f cdv A outer s H vs Q E hr h => ?_)
  · obtain ⟨n, d, rfl, _⟩ := h
    rfl
  · obtain ⟨n, d, rfl, h1, h2, h3, q⟩ := h
    refine ⟨_, (pss_cons (ps_set (i := 2) scLowest.nd rfl (.inl rfl) (pe_ok GDivisor (hr.mono (by decide)) (by rfl) (pa_cons (pv 0) (pa_cons (pv 1) pa_nil))))
    (pss_one (ps_ret (pe_tup (pa_cons (pe_op op_fdivW (pv 0) (pv 2)) (pa_cons (pe_op op_fdivW (pv 1) (pv 2)) pa_nil)))))), ?_⟩
    have hg : CDivW n (Int.gcd n d : Nat) := wide_div (b := 64) (gcd_pos h2) (by have := gcd_le (n := n) h2; have := gcd_pos (n := n) h2; omega) (by decide) (by decide)
    refine ⟨_, rfl, _, rfl, n, d, rfl, h1, Int.le_of_lt h2, ?_⟩
    refine ⟨_, rfl, _, rfl, _, _, rfl, rfl, hg, _, rfl, _, rfl, _, _, rfl, rfl, hg, (by show 2 ≤ sizeLine; decide), fun p hp => q p hp⟩
def spGr (K : PySem.W.Frag) : Sp := fun vs H Q _ => ∃ (p q : Addr) (n1 d1 n2 d2 : Int), vs = [.ref p, .ref q] ∧ SqT K H p [.int n1, .int d1] ∧ SqT K H q [.int n2, .int d2] ∧ (-(2 ^ 64) < n1 ∧ n1 < 2 ^ 64) ∧ (-(2 ^ 64) < n2 ∧ n2 < 2 ^ 64) ∧
  Q (.bl (decide (n2 * d1 < n1 * d2))) H
theorem ok_IsGreater (D : Dfn K mg "is_greater" sIsGreater ["one", "other"]) : Ok P w K mg base 1 "is_greater" ["one", "other"] (spGr K) := by
  refine ok_by D scIsGreater (fun vs H Q E h => ?_) (fun f cdv A outer s H vs Q E hr h => ?_)
  · obtain ⟨p, q, n1, d1, n2, d2, rfl, _⟩ := h
    rfl
  · obtain ⟨p, q, n1, d1, n2, d2, rfl, s1, s2, b1, b2, k⟩ := h
    refine ⟨_, (pss_one (ps_ret (pe_cmpR op_gt (pe_op op_mul (pe_ix ix_tup (pv 0) pe_int (fun _ _ => rfl)) (pe_ix ix_tup (pv 1) pe_int (fun _ _ => rfl))) (pe_op op_mul (pe_ix ix_tup (pv 1) pe_int (fun _ _ => rfl)) (pe_ix ix_tup (pv 0) pe_int (fun _ _ => rfl))) (nomark _)))), ?_⟩
    refine rd_tup (j := 0) rfl s1 rfl (rd_tup (j := 1) rfl s2 rfl ⟨_, _, rfl, rfl, .inl b1, rd_tup (j := 0) rfl s2 rfl (rd_tup (j := 1) rfl s1 rfl ⟨_, _, rfl, rfl, .inl b2, _, _, rfl, rfl, k⟩)⟩)
end
end Sm
end
section
set_option Elab.async false
set_option linter.all false
set_option maxRecDepth 100000
set_option maxHeartbeats 4000000
namespace Sm
open PySem PySem.Spec PyProof.Rows L2 SmR
/-! ### bounds of products -/
theorem num_den_bd {k : Int} {os : List Off} (h : OsOk k os) : ∀ T : List Nat, (∀ i ∈ T, i < os.length) → (0 ≤ num os T ∧ num os T ≤ 30 ^ T.length) ∧ 1 ≤ den os T ∧ den os T ≤ 30 ^ T.length
  | [], _ => (by decide : ((0 : Int) ≤ 1 ∧ (1 : Int) ≤ 30 ^ 0) ∧ (1 : Int) ≤ 1 ∧ (1 : Int) ≤ 30 ^ 0)
  | i :: T, hT => by
    obtain ⟨⟨a, b⟩, c, d⟩ := num_den_bd h T fun j hj => hT j (List.mem_cons_of_mem _ hj)
    have e := h.each i (hT i (List.mem_cons_self ..))
    show (0 ≤ (off os i).y * num os T ∧ (off os i).y * num os T ≤ 30 ^ (T.length + 1)) ∧ 1 ≤ (off os i).x * den os T ∧ (off os i).x * den os T ≤ 30 ^ (T.length + 1)
    have p1 : (off os i).y * num os T ≤ 30 * 30 ^ T.length := Int.mul_le_mul e.2.2.2.2.2.2.2 b a (by decide)
    have p2 : (off os i).x * den os T ≤ 30 * 30 ^ T.length := Int.mul_le_mul e.2.2.2.2.2.1 d (by omega) (by decide)
    have p3 : 0 ≤ (off os i).y * num os T := Int.mul_nonneg e.2.2.2.2.2.2.1 a
    have p4 : 0 < (off os i).x * den os T := Int.mul_pos (by omega) (by omega)
    have p5 : (30 : Int) ^ (T.length + 1) = 30 * 30 ^ T.length := by rw [Int.pow_succ, Int.mul_comm]
    omega
theorem pow30_le {n m : Nat} (h : n ≤ m) : (30 : Int) ^ n ≤ 30 ^ m := by
  have := Nat.pow_le_pow_right (show 0 < 30 by decide) h
  have e1 : ((30 ^ n : Nat) : Int) = 30 ^ n := by simp
  have e2 : ((30 ^ m : Nat) : Int) = 30 ^ m := by simp
  omega
theorem num_den_6 {k : Int} {os : List Off} (h : OsOk k os) {T : List Nat} (hT : ∀ i ∈ T, i < os.length) (hl : T.length ≤ 6) : (0 ≤ num os T ∧ num os T ≤ 729000000) ∧ 1 ≤ den os T ∧ den os T ≤ 729000000 := by
  have := num_den_bd h T hT
  have e := pow30_le hl
  have : (30 : Int) ^ 6 = 729000000 := by decide
  omega
theorem low_bd {n d : Int} (hn : 0 ≤ n) (hd : 0 < d) : 0 ≤ lown n d ∧ lown n d ≤ n ∧ 0 < lowd n d ∧ lowd n d ≤ d := by
  obtain ⟨e1, e2⟩ := low_spec (n := n) hd
  have g := gcd_pos (n := n) hd
  have d1 := lowd_pos (n := n) hd
  have n1 : 0 ≤ lown n d := Int.ediv_nonneg hn (by omega)
  have g1 : (1 : Int) ≤ (Int.gcd n d : Nat) := by omega
  have q1 := Int.mul_le_mul_of_nonneg_left g1 n1
  have q2 := Int.mul_le_mul_of_nonneg_left g1 (Int.le_of_lt d1)
  omega
theorem num_take_succ {os : List Off} {T : List Nat} {i : Nat} (h : i < T.length) : num os (T.take (i + 1)) = num os (T.take i) * (off os T[i]).y ∧ den os (T.take (i + 1)) = den os (T.take i) * (off os T[i]).x := by
  rw [List.take_succ_eq_append_getElem h, num_app, den_app]
  simp [num, den]
section
variable {P : Program} {w : World} {K : PySem.W.Frag} {mg : Str → Option Value} {base : Heap}
/-! ### ratio_of -/
def spRatio (K : PySem.W.Frag) : Sp := fun vs H Q _ => ∃ (p t : Addr) (k : Int) (os : List Off) (T : List Nat), vs = [.ref p, .ref t] ∧ BoardAt K H p k os ∧ OsOk k os ∧ TrAt K H t T ∧ (∀ i ∈ T, i < os.length) ∧ T.length ≤ 6 ∧
  ∀ H' q, Same H H' → H q = none → H' q = some (frac (num os T) (den os T)) → Q (.ref q) H'
theorem ok_RatioOf (D : Dfn K mg "ratio_of" sRatioOf ["board", "indexes"]) (GLowest : Ok P w K mg base 2 "lowest" ["num", "den"] spLow) : Ok P w K mg base 3 "ratio_of" ["board", "indexes"] (spRatio K) := by
  refine ok_by D scRatioOf (fun vs H Q E h => ?_) (fun f cdv A outer s H vs Q E hr h => ?_)
  · obtain ⟨p, t, k, os, T, rfl, _⟩ := h
    rfl
  · obtain ⟨p, t, k, os, T, rfl, B, ok, St, hT, hl, q⟩ := h
    refine ⟨_, (pss_cons (ps_asg (pe_tup (pa_cons pe_int (pa_cons pe_int pa_nil))) (pg_tup rfl (pgs_cons (pg_name (i := 2) scRatioOf.nd rfl (.inl rfl)) (pgs_cons (pg_name (i := 3) scRatioOf.nd rfl (.inl rfl)) pgs_nil))))
    (pss_cons (ps_for PassesOwn.never rfl (pi_tup (pv 1)) (pg_name (i := 4) scRatioOf.nd rfl (.inl rfl))
      (pss_cons (ps_set (i := 2) scRatioOf.nd rfl (.inl rfl) (pe_op op_mul (pv 2) (pe_ix ix_tup (pe_ix ix_tup (pe_ix ix_tup (pv 0) pe_int (fun _ _ => rfl)) (pv 4) (fun _ _ => rfl)) pe_int (fun _ _ => rfl))))
    (pss_one (ps_set (i := 3) scRatioOf.nd rfl (.inl rfl) (pe_op op_mul (pv 3) (pe_ix ix_tup (pe_ix ix_tup (pe_ix ix_tup (pv 0) pe_int (fun _ _ => rfl)) (pv 4) (fun _ _ => rfl)) pe_int (fun _ _ => rfl)))))))
    (pss_one (ps_ret (pe_ok GLowest (hr.mono (by decide)) (by rfl) (pa_cons (pv 2) (pa_cons (pv 3) pa_nil))))))), ?_⟩
    refine ⟨(by show 2 ≤ sizeLine; decide), fun u nu => ?_⟩
    have su : Same H (upd H u (.tup [.int 1, .int 1])) := same_upd nu
    refine ⟨u, _, rfl, .inl (.inl upd_same), rfl, _, _, rfl, _, _, rfl, rfl, ?_⟩
    refine ⟨_, rfl, t, rfl, ⟨_, same_seqT su St⟩, for_tup (K := K) (a := t) (xs := T.map nv) (fun i σ H' => ∃ x4, σ = [some (.ref p), some (.ref t), some (.int (num os (T.take i))), some (.int (den os (T.take i))), x4] ∧ Same H H')
      ⟨none, rfl, su⟩ (fun i σ H' _ ⟨_, _, e⟩ => same_seqT e St) ?_ ?_⟩
    · rintro i x σ H' hx ⟨x4, rfl, sm⟩
      have B := B.same sm
      obtain ⟨hi, ex⟩ := List.getElem?_eq_some_iff.mp hx
      rw [List.length_map] at hi
      rw [List.getElem_map] at ex
      subst ex
      have hm : T[i] < os.length := hT _ (List.getElem_mem hi)
      obtain ⟨e1, e2⟩ := num_take_succ (os := os) hi
      have bd := num_den_6 ok (T := T.take i) (fun j hj => hT j (List.mem_of_mem_take hj)) (by rw [List.length_take]; omega)
      refine ⟨_, rfl, rd_off (j := 3) rfl B hm rfl (rd_var rfl) ⟨_, _, rfl, rfl, .inl ⟨by omega, by omega⟩, ?_⟩⟩
      refine ⟨_, rfl, rd_off (j := 1) rfl B hm rfl (rd_var rfl) ⟨_, _, rfl, rfl, .inl ⟨by omega, by omega⟩, ?_⟩⟩
      refine ⟨some (nv T[i]), ?_, sm⟩
      rw [e1, e2]
      rfl
    · rintro σ H' ⟨x4, rfl, sm⟩
      have et : T.take (T.map nv).length = T := by rw [List.length_map, List.take_length]
      rw [et]
      have bd := num_den_6 ok hT hl
      refine ⟨_, rfl, _, rfl, _, _, rfl, bd.1.1, by omega, by omega, fun q' nq => q _ q' (sm.trans (same_upd nq)) (sm.free nq) upd_same⟩
/-! ### giving -/
def givs (os : List Off) (c : Int) : List Nat := (List.range os.length).filter fun i => decide ((off os i).a = c) && decide (0 < (off os i).y)
theorem mem_givs {os : List Off} {c : Int} {i : Nat} : i ∈ givs os c ↔ Giv os i ∧ src os i = c := by
  unfold givs Giv src
  rw [List.mem_filter, List.mem_range, Bool.and_eq_true, decide_eq_true_eq, decide_eq_true_eq]
  exact ⟨fun h => ⟨⟨h.1, h.2.2⟩, h.2.1⟩, fun h => ⟨h.1.1, h.2, h.1.2⟩⟩
theorem givs_len (os : List Off) (c : Int) : (givs os c).length ≤ os.length := by
  have := List.length_filter_le (fun i => decide ((off os i).a = c) && decide (0 < (off os i).y)) (List.range os.length)
  rw [List.length_range] at this
  exact this
theorem givs_asc (os : List Off) (c : Int) : (givs os c).Pairwise (· < ·) := List.Pairwise.filter _ List.pairwise_lt_range
def spGiv (K : PySem.W.Frag) : Sp := fun vs H Q _ => ∃ (p : Addr) (k c : Int) (os : List Off), vs = [.ref p, .int c] ∧ BoardAt K H p k os ∧ OsOk k os ∧
  ∀ H' D, Same H H' → H D = none → H' D = some (.lst ((givs os c).map nv)) → Q (.ref D) H'
theorem ok_Giving (D : Dfn K mg "giving" sGiving ["board", "kind"]) (menumerate : mg "enumerate" = none) : Ok P w K mg base 1 "giving" ["board", "kind"] (spGiv K) := by
  refine ok_by D scGiving (fun vs H Q E h => ?_) (fun f cdv A outer s H vs Q E hr h => ?_)
  · obtain ⟨p, k, c, os, rfl, _⟩ := h
    rfl
  · obtain ⟨p, k, c, os, rfl, B, ok, q⟩ := h
    refine ⟨_, (pss_one (ps_ret (pe_lc (own := [("index", 2), ("offer", 3)]) (g := gTup K 2 (gCons (gName 2) (gCons (gName 3) gNil))) rfl scGiving.nd (pi_enumT (by rfl) menumerate (pa_cons (pe_ix ix_tup (pv 0) pe_int (fun _ _ => rfl)) pa_nil)) (blkOk_by (N := nGiving) (sc := defScope sGiving) (by decide +kernel)) (fun _ _ _ _ _ => (pg_tup rfl (pgs_cons (pg_name (i := 2) scGiving.nd rfl (.inl rfl)) (pgs_cons (pg_name (i := 3) scGiving.nd rfl (.inl rfl)) pgs_nil)))) (fun _ _ _ _ _ => (pts_one (PW.pt (pw_and (pt_cmpR op_eq (pe_ix (ixT (K := K) rfl) (pv 3) pe_int (fun _ _ => rfl)) (pv 1) (nomark _)) (pw_and1 (pt_cmpR op_gt (pe_ix (ixT (K := K) rfl) (pv 3) pe_int (fun _ _ => rfl)) pe_int (nomark _))))))) (fun _ _ _ _ _ => (pv 2))))), ?_⟩
    obtain ⟨u, vs, h1, h2, h3, h4⟩ := B
    refine ⟨_, rfl, p, _, 1, .ref u, rfl, rfl, h1, atI_nat (j := 1) rfl, u, vs, rfl, h2, fun L nL => ?_⟩
    have sL : Same H (upd H L (.lst [])) := same_upd nL
    refine lc_it walk_enumT (fun i H' => Same H H' ∧ H' L = some (.lst (((List.range i).filter fun i => decide ((off os i).a = c) && decide (0 < (off os i).y)).map nv))) ⟨sL, upd_same⟩ (fun i H' _ h => same_seqT h.1 h2) ?_ ?_
    · rintro i x H' H2 hi ⟨sm, eL⟩ ⟨T, x1, x2, rfl, nT, rfl, e1, e2⟩
      cases e1
      rw [h3] at hi
      obtain ⟨r, er, sr⟩ := h4 i hi
      have e2' : vs[i]? = some x2 := e2
      rw [er] at e2'
      cases e2'
      have sT : Same H' (upd H' T (.tup [.int (i : Nat), .ref r])) := same_upd nT
      have sr' := same_seqT (sm.trans sT) sr
      refine ⟨T, _, rfl, .inl (.inl upd_same), rfl, _, _, rfl, _, _, rfl, rfl, rfl, ?_⟩
      have ers : (List.range (i + 1)).filter (fun i => decide ((off os i).a = c) && decide (0 < (off os i).y)) = (List.range i).filter (fun i => decide ((off os i).a = c) && decide (0 < (off os i).y)) ++ if (decide ((off os i).a = c) && decide (0 < (off os i).y)) = true then [i] else [] := by
        rw [List.range_succ, List.filter_append, List.filter_cons, List.filter_nil]
      refine rd_tup (j := 0) rfl sr' rfl ⟨_, rfl, rfl, _, rfl, ?_⟩
      by_cases ha : (off os i).a = c
      · rw [decide_eq_true (show V.int (off os i).a = V.int c by rw [ha])]
        refine iteT (rd_tup (j := 3) rfl sr' rfl ⟨_, _, rfl, rfl, _, rfl, ?_⟩)
        by_cases hy : 0 < (off os i).y
        · rw [decide_eq_true hy]
          refine iteT ⟨_, rfl, _, sT _ _ eL, ?_, same_put (sm.trans sT) nL, ?_⟩
          · have z1 := List.length_filter_le (fun i => decide ((off os i).a = c) && decide (0 < (off os i).y)) (List.range i)
            rw [List.length_range] at z1
            rw [List.length_map]
            exact small1000 (by have := ok.len; omega)
          · rw [upd_same, ers, if_pos (by rw [decide_eq_true ha, decide_eq_true hy]; rfl), List.map_append]
            rfl
        · rw [decide_eq_false hy]
          refine iteF ⟨sm.trans sT, ?_⟩
          rw [ers, if_neg (by rw [decide_eq_false hy, Bool.and_false]; exact Bool.false_ne_true), List.append_nil]
          exact sT _ _ eL
      · rw [decide_eq_false (fun z => ha (V.int.inj z))]
        refine iteF (iteF ⟨sm.trans sT, ?_⟩)
        rw [ers, if_neg (by rw [decide_eq_false ha, Bool.false_and]; exact Bool.false_ne_true), List.append_nil]
        exact sT _ _ eL
    · rintro H' ⟨sm, eL⟩
      rw [h3] at eL
      exact q H' L sm nL eL
end
end Sm
end
section
set_option Elab.async false
set_option linter.all false
set_option maxRecDepth 100000
set_option maxHeartbeats 4000000
namespace Sm
open PySem PySem.Spec PyProof.Rows L2 SmR
/-! ### the dict of best_steps -/
theorem nv_inj {a b : Nat} (h : nv a = nv b) : a = b := by
  have : (a : Int) = b := V.int.inj h
  omega
structure DInv (os : List Off) (S : List Nat) (kvs : List (Key × V)) : Prop where
  len : kvs.length ≤ S.length
  keys : ∃ ks : List Int, kvs.map (·.1) = ks.map Sum.inl
  val : ∀ (g : Int) (v : V), valV kvs (Sum.inl g) = some v → ∃ i, i ∈ S ∧ v = nv i ∧ dst os i = g ∧ ∀ j, j ∈ S → dst os j = g → rge os i j ∧ (j < i → rgt os i j)
  has : ∀ j, j ∈ S → valV kvs (Sum.inl (dst os j)) ≠ none
theorem putK_keys {kvs : List (Key × V)} {k : Key} {v : V} : (putK kvs k v).map (·.1) = kvs.map (·.1) ∨ (putK kvs k v).map (·.1) = kvs.map (·.1) ++ [k] := by
  unfold putK
  split
  · refine .inl ?_
    rw [List.map_map]
    refine List.map_congr_left fun x _ => ?_
    show (if x.1 = k then (x.1, v) else x).1 = x.1
    split <;> rfl
  · exact .inr (by rw [List.map_append]; rfl)
theorem putK_keysI {kvs : List (Key × V)} {g : Int} {v : V} (h : ∃ ks : List Int, kvs.map (·.1) = ks.map Sum.inl) : ∃ ks : List Int, (putK kvs (Sum.inl g) v).map (·.1) = ks.map Sum.inl := by
  obtain ⟨ks, e⟩ := h
  rcases putK_keys (kvs := kvs) (k := Sum.inl g) (v := v) with q | q
  · exact ⟨ks, q.trans e⟩
  · exact ⟨ks ++ [g], by rw [q, e, List.map_append]; rfl⟩
section
variable {k : Int} {os : List Off} {S : List Nat} {kvs : List (Key × V)} {e : Nat}
theorem DInv.nil : DInv os [] [] := ⟨Nat.le_refl _, ⟨[], rfl⟩, (fun g v h => by cases h), (fun j h => by cases h)⟩
/-- a new one, or a better one -/
theorem DInv.put (D : DInv os S kvs) (hlt : ∀ j, j ∈ S → j < e) (hb : ∀ i, valV kvs (Sum.inl (dst os e)) = some (nv i) → rgt os e i) (h : OsOk k os) : DInv os (S ++ [e]) (putK kvs (Sum.inl (dst os e)) (nv e)) := by
  refine ⟨?_, putK_keysI D.keys, fun g v hv => ?_, fun j hj => ?_⟩
  · have := length_putK kvs (Sum.inl (dst os e)) (nv e)
    have := D.len
    rw [List.length_append, List.length_singleton]
    omega
  · rw [valV_put] at hv
    by_cases hg : (Sum.inl g : Key) = Sum.inl (dst os e)
    · rw [if_pos hg] at hv
      cases hv
      have hg' : g = dst os e := Sum.inl.inj hg
      subst hg'
      refine ⟨e, List.mem_append_right _ (List.mem_singleton.mpr rfl), rfl, rfl, fun j hj hd => ?_⟩
      rcases List.mem_append.mp hj with hj | hj
      · have hn := D.has j hj
        rw [hd] at hn
        cases hv : valV kvs (Sum.inl (dst os e)) with
        | none => exact absurd hv hn
        | some v =>
          obtain ⟨i, hi, rfl, hid, hbest⟩ := D.val _ _ hv
          have r1 := (hbest j hj hd).1
          have r2 := hb i hv
          have r3 : rgt os e j := by
            unfold rge at r1
            unfold rgt at *
            exact lt_trans3' (h.x j) (h.x i) (h.x e) r1 r2
          exact ⟨Int.le_of_lt r3, fun _ => r3⟩
      · rw [List.mem_singleton.mp hj]
        exact ⟨Int.le_refl _, fun z => absurd z (Nat.lt_irrefl _)⟩
    · rw [if_neg hg] at hv
      obtain ⟨i, hi, ev, hid, hbest⟩ := D.val _ _ hv
      refine ⟨i, List.mem_append_left _ hi, ev, hid, fun j hj hd => ?_⟩
      rcases List.mem_append.mp hj with hj | hj
      · exact hbest j hj hd
      · rw [List.mem_singleton.mp hj] at hd
        exact absurd (congrArg Sum.inl hd.symm) hg
  · rw [valV_put]
    split
    · intro z
      cases z
    · rename_i hg
      rcases List.mem_append.mp hj with hj | hj
      · exact D.has j hj
      · rw [List.mem_singleton.mp hj] at hg
        exact absurd rfl hg
/-- the old one is as good -/
theorem DInv.stay (D : DInv os S kvs) (hlt : ∀ j, j ∈ S → j < e) {i : Nat} (hi : valV kvs (Sum.inl (dst os e)) = some (nv i)) (hb : ¬ rgt os e i) : DInv os (S ++ [e]) kvs := by
  refine ⟨?_, D.keys, fun g v hv => ?_, fun j hj => ?_⟩
  · have := D.len
    rw [List.length_append, List.length_singleton]
    omega
  · obtain ⟨i', hi', ev, hid, hbest⟩ := D.val _ _ hv
    refine ⟨i', List.mem_append_left _ hi', ev, hid, fun j hj hd => ?_⟩
    rcases List.mem_append.mp hj with hj | hj
    · exact hbest j hj hd
    · rw [List.mem_singleton.mp hj] at hd ⊢
      subst hd
      rw [hi] at hv
      cases hv
      have : i = i' := nv_inj ev
      subst this
      exact ⟨Int.not_lt.mp hb, fun z => absurd (hlt i hi') (by omega)⟩
  · rcases List.mem_append.mp hj with hj | hj
    · exact D.has j hj
    · rw [List.mem_singleton.mp hj, hi]
      intro z
      cases z
/-- at the end: the values are the best offers -/
theorem DInv.best {c : Int} (D : DInv os (givs os c) kvs) (n : Nat) : (∃ g, valV kvs (Sum.inl g) = some (nv n)) ↔ Best os n ∧ src os n = c := by
  have fw : ∀ g i, valV kvs (Sum.inl g) = some (nv i) → Best os i ∧ src os i = c ∧ dst os i = g := by
    intro g i hv
    obtain ⟨i', hi', ev, hid, hbest⟩ := D.val _ _ hv
    have := nv_inj ev
    subst this
    obtain ⟨gi, si⟩ := mem_givs.mp hi'
    refine ⟨⟨gi, gi.1, fun j hj bj => ?_⟩, si, hid⟩
    exact hbest j (mem_givs.mpr ⟨bj.1, bj.2.1.trans si⟩) (bj.2.2.trans hid)
  constructor
  · rintro ⟨g, hv⟩
    obtain ⟨a, b, _⟩ := fw g n hv
    exact ⟨a, b⟩
  · rintro ⟨b, s⟩
    have hm : n ∈ givs os c := mem_givs.mpr ⟨b.1, s⟩
    cases hv : valV kvs (Sum.inl (dst os n)) with
    | none => exact absurd hv (D.has n hm)
    | some v =>
      obtain ⟨i, hi, rfl, _, _⟩ := D.val _ _ hv
      obtain ⟨b2, s2, d2⟩ := fw _ _ hv
      have := BestTo.uniq b b2 ⟨b2.1, s2.trans s.symm, d2⟩
      subst this
      exact ⟨_, hv⟩
end
theorem frac_lt {n1 d1 n2 d2 : Int} (h1 : 0 < d1) (h2 : 0 < d2) : (lown n2 d2 * lowd n1 d1 < lown n1 d1 * lowd n2 d2) ↔ n2 * d1 < n1 * d2 := by
  obtain ⟨a1, b1⟩ := low_spec (n := n1) h1
  obtain ⟨a2, b2⟩ := low_spec (n := n2) h2
  have g1 := gcd_pos (n := n1) h1
  have g2 := gcd_pos (n := n2) h2
  generalize lown n1 d1 = x1 at *
  generalize lowd n1 d1 = y1 at *
  generalize lown n2 d2 = x2 at *
  generalize lowd n2 d2 = y2 at *
  generalize ((Int.gcd n1 d1 : Nat) : Int) = u1 at *
  generalize ((Int.gcd n2 d2 : Nat) : Int) = u2 at *
  subst a1 b1 a2 b2
  have p := Int.mul_pos g1 g2
  have e1 : x2 * u2 * (y1 * u1) = (x2 * y1) * (u1 * u2) := by grind
  have e2 : x1 * u1 * (y2 * u2) = (x1 * y2) * (u1 * u2) := by grind
  rw [e1, e2]
  constructor
  · intro h
    exact Int.mul_lt_mul_of_pos_right h p
  · intro h
    exact Int.lt_of_mul_lt_mul_right h (Int.le_of_lt p)
section
variable {P : Program} {w : World} {K : PySem.W.Frag} {mg : Str → Option Value} {base : Heap}
/-! ### best_steps -/
def spSteps (K : PySem.W.Frag) : Sp := fun vs H Q _ => ∃ (p : Addr) (k c : Int) (os : List Off), vs = [.ref p, .int c] ∧ BoardAt K H p k os ∧ OsOk k os ∧
  ∀ (H' : Hp) (D : Addr) (I : List Nat), Same H H' → H D = none → H' D = some (.lst (I.map nv)) → I.length ≤ 16 → (∀ i, i ∈ I ↔ Best os i ∧ src os i = c) → Q (.ref D) H'
theorem tr1 {K : PySem.W.Frag} {H : Hp} {p : Addr} {i : Nat} (h : H p = some (.tup [nv i])) : TrAt K H p [i] := .inl (.inl h)
theorem ok_BestSteps (D : Dfn K mg "best_steps" sBestSteps ["board", "kind"]) (GGiving : Ok P w K mg base 1 "giving" ["board", "kind"] (spGiv K)) (GRatioOf : Ok P w K mg base 3 "ratio_of" ["board", "indexes"] (spRatio K))
    (GIsGreater : Ok P w K mg base 1 "is_greater" ["one", "other"] (spGr K)) (msorted : mg "sorted" = none) : Ok P w K mg base 4 "best_steps" ["board", "kind"] (spSteps K) := by
  refine ok_by D scBestSteps (fun vs H Q E h => ?_) (fun f cdv A outer s H vs Q E hr h => ?_)
  · obtain ⟨p, k, c, os, rfl, _⟩ := h
    rfl
  · obtain ⟨p, k, c, os, rfl, B, ok, q⟩ := h
    have hu := hu_of hr
    refine ⟨_, (pss_cons (ps_set (i := 2) scBestSteps.nd rfl (.inr rfl) pe_dnewK)
    (pss_cons (ps_for PassesOwn.never rfl (pi_list (pe_ok GGiving (hr.mono (by decide)) (by rfl) (pa_cons (pv 0) (pa_cons (pv 1) pa_nil)))) (pg_name (i := 3) scBestSteps.nd rfl (.inl rfl))
      (pss_cons (ps_set (i := 4) scBestSteps.nd rfl (.inl rfl) (pe_ix ix_tup (pe_ix ix_tup (pe_ix ix_tup (pv 0) pe_int (fun _ _ => rfl)) (pv 3) (fun _ _ => rfl)) pe_int (fun _ _ => rfl)))
    (pss_one (ps_if (PW.pt (pw_or (pt_cmp (pc_dnotin hu (pv 4) (pv 2))) (pw_or1 (pt_val (pe_ok GIsGreater (hr.mono (by decide)) (by rfl) (pa_cons (pe_ok GRatioOf (hr.mono (by decide)) (by rfl) (pa_cons (pv 0) (pa_cons (pe_tup (pa_cons (pv 3) pa_nil)) pa_nil))) (pa_cons (pe_ok GRatioOf (hr.mono (by decide)) (by rfl) (pa_cons (pv 0) (pa_cons (pe_tup (pa_cons (pe_dget hu (pv 2) (pv 4) (fun _ _ => rfl)) pa_nil)) pa_nil))) pa_nil))))))) (pss_one (ps_dput hu (pv 2) (pv 4) (pv 3) rfl)) pss_nil))))
    (pss_one (ps_ret (pe_lc (own := [("goal", 4)]) (g := gName 4) (tt := tYes) rfl scBestSteps.nd (pi_list (pe_callB (call_sortedDI rfl) (by rfl) msorted (by decide +kernel) (pa_cons (pv 2) pa_nil))) (blkOk_by (N := nBestSteps) (sc := defScope sBestSteps) (by decide +kernel)) (fun _ _ _ _ _ => (pg_name (i := 4) scBestSteps.nd rfl (.inl rfl))) (fun _ _ _ _ _ => pts_nil) (fun _ _ _ _ _ => (pe_dget hu (pv 2) (pv 4) (fun _ _ => rfl)))))))), ?_⟩
    intro d nd
    have sd : Same H (upd H d (.dK [])) := same_upd nd
    refine ⟨_, rfl, _, rfl, p, k, c, os, rfl, B.same sd, ok, fun H1 D1 s1 n1 e1 => ?_⟩
    have nD1 : H D1 = none := sd.free n1
    have hne : D1 ≠ d := fun z => by
      rw [z, upd_same] at n1
      cases n1
    have sH1 : Same H H1 := sd.trans s1
    refine ⟨D1, rfl, ⟨_, SqL.of e1⟩, for_list (K := K) (a := D1) (xs := (givs os c).map nv)
      (fun i σ H' => ∃ x3 x4 kvs, σ = [some (.ref p), some (.int c), some (.ref d), x3, x4] ∧ Same H H' ∧ H' D1 = some (.lst ((givs os c).map nv)) ∧ H' d = some (.dK kvs) ∧ DInv os ((givs os c).take i) kvs)
      ⟨none, none, [], rfl, sH1, e1, s1 _ _ upd_same, DInv.nil⟩ (fun i σ H' _ ⟨_, _, _, _, _, e, _⟩ => SqL.of e) ?_ ?_⟩
    · rintro i x σ H' hx ⟨x3, x4, kvs, rfl, sm, eD, ed, dv⟩
      obtain ⟨hi, ex⟩ := List.getElem?_eq_some_iff.mp hx
      rw [List.length_map] at hi
      rw [List.getElem_map] at ex
      subst ex
      have B' := B.same sm
      have hmem := List.getElem_mem hi
      have hgiv := mem_givs.mp hmem
      have hlt : ∀ j, j ∈ (givs os c).take i → j < (givs os c)[i] := by
        intro j hj
        obtain ⟨n, hn, ej⟩ := List.getElem_of_mem hj
        rw [List.length_take] at hn
        rw [List.getElem_take] at ej
        subst ej
        exact List.pairwise_iff_getElem.mp (givs_asc os c) n i (by omega) hi (by omega)
      have htk : (givs os c).take (i + 1) = (givs os c).take i ++ [(givs os c)[i]] := List.take_succ_eq_append_getElem hi
      generalize (givs os c)[i] = e at *
      have he := hgiv.1.1
      have hkl : kvs.length < sizeLine := small1000 (by
        have := dv.len
        have := givs_len os c
        have := ok.len
        rw [List.length_take] at *
        omega)
      refine rd_off (j := 2) rfl B' he rfl (rd_var rfl) ?_
      refine ⟨_, rfl, _, rfl, d, _, rfl, DGet.k (k := Sum.inl (dst os e)) ed, _, rfl, ?_⟩
      have put : ∀ H3, Same H H3 → H3 D1 = some (.lst ((givs os c).map nv)) → H3 d = some (.dK kvs) → (∀ i, valV kvs (Sum.inl (dst os e)) = some (nv i) → rgt os e i) →
          ∃ x3 x4 kvs', [some (V.ref p), some (.int c), some (.ref d), some (nv e), some (.int (off os e).b)] = [some (.ref p), some (.int c), some (.ref d), x3, x4] ∧ Same H (upd H3 d (.dK (putK kvs (Sum.inl (dst os e)) (nv e)))) ∧
            (upd H3 d (.dK (putK kvs (Sum.inl (dst os e)) (nv e)))) D1 = some (.lst ((givs os c).map nv)) ∧ (upd H3 d (.dK (putK kvs (Sum.inl (dst os e)) (nv e)))) d = some (.dK kvs') ∧ DInv os ((givs os c).take (i + 1)) kvs' := by
        intro H3 s3 a3 b3 hb
        refine ⟨_, _, _, rfl, same_put s3 nd, ?_, upd_same, ?_⟩
        · rw [upd_ne hne]
          exact a3
        · rw [htk]
          exact dv.put hlt hb ok
      cases hv : valV kvs (Sum.inl (dst os e)) with
      | none =>
        refine iteT (iteT ⟨_, rfl, _, rfl, _, rfl, d, _, rfl, DPut.k (k := Sum.inl (dst os e)) ed hkl, ?_⟩)
        exact put H' sm eD ed fun i z => by rw [hv] at z; cases z
      | some v =>
        obtain ⟨i0, hi0, rfl, _, _⟩ := dv.val _ _ hv
        have hi0m : i0 < os.length := (mem_givs.mp (List.mem_of_mem_take hi0)).1.1
        refine iteF ⟨_, rfl, _, rfl, (by show 1 ≤ sizeLine; decide), fun t1 nt1 => ?_⟩
        have z1 : Same H' (upd H' t1 (.tup [nv e])) := same_upd nt1
        refine ⟨p, t1, k, os, [e], rfl, B'.same z1, ok, tr1 upd_same, (by simpa using he), (by simp), fun H2 q1 z2 nq1 eq1 => ?_⟩
        have y2 := z1.trans z2
        refine ⟨_, rfl, _, rfl, _, rfl, d, nv i0, rfl, (by rw [← hv]; exact DGet.k (k := Sum.inl (dst os e)) (y2 _ _ ed)), (by show 1 ≤ sizeLine; decide), fun t2 nt2 => ?_⟩
        have z3 : Same H2 (upd H2 t2 (.tup [nv i0])) := same_upd nt2
        refine ⟨p, t2, k, os, [i0], rfl, (B'.same y2).same z3, ok, tr1 upd_same, (by simpa using hi0m), (by simp), fun H3 q2 z4 nq2 eq2 => ?_⟩
        have y4 := (y2.trans z3).trans z4
        have a1 : num os [e] = (off os e).y := by simp [num]
        have a2 : den os [e] = (off os e).x := by simp [den]
        have a3 : num os [i0] = (off os i0).y := by simp [num]
        have a4 : den os [i0] = (off os i0).x := by simp [den]
        rw [a1, a2] at eq1
        rw [a3, a4] at eq2
        have b1 := ok.each e he
        have b2 := ok.each i0 hi0m
        have c1 := low_bd (n := (off os e).y) (d := (off os e).x) (by omega) (by omega)
        have c2 := low_bd (n := (off os i0).y) (d := (off os i0).x) (by omega) (by omega)
        refine ⟨q1, q2, _, _, _, _, rfl, SqT.of ((z3.trans z4) _ _ eq1), SqT.of eq2, ⟨by omega, by omega⟩, ⟨by omega, by omega⟩, _, rfl, ?_⟩
        have hc := frac_lt (n1 := (off os e).y) (d1 := (off os e).x) (n2 := (off os i0).y) (d2 := (off os i0).x) (by omega) (by omega)
        by_cases hgt : rgt os e i0
        · rw [decide_eq_true (hc.mpr hgt)]
          refine iteT ⟨_, rfl, _, rfl, _, rfl, d, _, rfl, DPut.k (k := Sum.inl (dst os e)) (y4 _ _ ed) hkl, ?_⟩
          exact put H3 (sm.trans y4) (y4 _ _ eD) (y4 _ _ ed) fun i z => by
            rw [hv] at z
            have := nv_inj (Option.some.inj z)
            rw [← this]
            exact hgt
        · rw [decide_eq_false (fun z => hgt (hc.mp z))]
          refine iteF ⟨_, _, kvs, rfl, sm.trans y4, y4 _ _ eD, y4 _ _ ed, ?_⟩
          rw [htk]
          exact dv.stay hlt hv hgt
    · rintro σ H' ⟨x3, x4, kvs, rfl, sm, eD, ed, dv⟩
      have et : (givs os c).take ((givs os c).map nv).length = givs os c := by rw [List.length_map, List.take_length]
      rw [et] at dv
      obtain ⟨ks, ek⟩ := dv.keys
      have hks : ks.length ≤ 16 := by
        have z := congrArg List.length ek
        rw [List.length_map, List.length_map] at z
        have := dv.len
        have := givs_len os c
        have := ok.len
        omega
      refine ⟨_, rfl, d, kvs, ks, rfl, .inl ed, ek, by omega, fun ys p1 perm asc np1 => ?_⟩
      have zp : Same H' (upd H' p1 (.lst (ys.map V.int))) := same_upd np1
      have hpd : p1 ≠ d := fun z => by
        rw [z, ed] at np1
        cases np1
      refine ⟨p1, rfl, ⟨_, SqL.of upd_same⟩, fun L nL => ?_⟩
      have zL := same_upd (o := .lst []) nL
      have nL0 : H L = none := (sm.trans zp).free nL
      have hLd : L ≠ d := fun z => by
        rw [z, zp _ _ ed] at nL
        cases nL
      have hLp : L ≠ p1 := fun z => by
        rw [z, upd_same] at nL
        cases nL
      refine lc_list (K := K) (a := p1) (xs := ys.map V.int) (fun i H2 => Same H H2 ∧ H2 p1 = some (.lst (ys.map V.int)) ∧ H2 d = some (.dK kvs) ∧ ∃ I : List Nat, H2 L = some (.lst (I.map nv)) ∧ I.length ≤ i ∧
          ∀ n, n ∈ I ↔ ∃ g, g ∈ ys.take i ∧ valV kvs (Sum.inl g) = some (nv n))
        ⟨(sm.trans zp).trans zL, zL _ _ upd_same, zL _ _ (zp _ _ ed), [], upd_same, Nat.le_refl _, fun n => ⟨(fun h => by cases h), (fun ⟨g, h, _⟩ => by cases h)⟩⟩ (fun i H2 _ h => SqL.of h.2.1) ?_ ?_
      · rintro i x H2 hx ⟨s2, e2, ed2, I, eL, hIl, hI⟩
        obtain ⟨hi, ex⟩ := List.getElem?_eq_some_iff.mp hx
        rw [List.length_map] at hi
        rw [List.getElem_map] at ex
        subst ex
        have hylen := perm.length_eq
        have hgm : ys[i] ∈ ks := perm.mem_iff.mp (List.getElem_mem hi)
        obtain ⟨v, hv⟩ : ∃ v, valV kvs (Sum.inl ys[i]) = some v := by
          cases hv : valV kvs (Sum.inl ys[i]) with
          | some v => exact ⟨v, rfl⟩
          | none =>
            refine absurd ?_ (valV_not hv)
            rw [ek]
            exact List.mem_map.mpr ⟨_, hgm, rfl⟩
        obtain ⟨n0, _, rfl, _, _⟩ := dv.val _ _ hv
        refine ⟨rfl, ?_⟩
        refine yesT ?_
        refine ⟨_, rfl, _, rfl, d, nv n0, rfl, (by rw [← hv]; exact DGet.k (k := Sum.inl ys[i]) ed2), _, eL, ?_, ?_⟩
        · rw [List.length_map]
          exact small1000 (by omega)
        · refine ⟨same_put s2 nL0, ?_, ?_, I ++ [n0], ?_, ?_, fun n => ?_⟩
          · rw [upd_ne hLp.symm]
            exact e2
          · rw [upd_ne hLd.symm]
            exact ed2
          · rw [upd_same, List.map_append]
            rfl
          · rw [List.length_append, List.length_singleton]
            omega
          · rw [List.take_succ_eq_append_getElem hi, List.mem_append, hI n, List.mem_singleton]
            constructor
            · rintro (⟨g, hg, e⟩ | rfl)
              · exact ⟨g, List.mem_append_left _ hg, e⟩
              · exact ⟨_, List.mem_append_right _ (List.mem_singleton.mpr rfl), hv⟩
            · rintro ⟨g, hg, e⟩
              rcases List.mem_append.mp hg with hg | hg
              · exact .inl ⟨g, hg, e⟩
              · rw [List.mem_singleton.mp hg, hv] at e
                exact .inr (nv_inj (Option.some.inj e)).symm
      · rintro H2 ⟨s2, e2, ed2, I, eL, hIl, hI⟩
        have hylen := perm.length_eq
        rw [List.length_map] at hI hIl
        rw [List.take_length] at hI
        refine q H2 L I s2 nL0 eL (by omega) fun n => ?_
        rw [hI n, ← dv.best n]
        constructor
        · rintro ⟨g, _, e⟩
          exact ⟨g, e⟩
        · rintro ⟨g, e⟩
          refine ⟨g, perm.mem_iff.mpr ?_, e⟩
          have := valV_in e
          rw [ek] at this
          obtain ⟨g', hg', eg⟩ := List.mem_map.mp this
          cases eg
          exact hg'
end
end Sm
end
section
set_option Elab.async false
set_option linter.all false
set_option maxRecDepth 100000
set_option maxHeartbeats 4000000
namespace Sm
open PySem PySem.Spec PyProof.Rows L2 SmR
theorem nodup_le : ∀ (l D : List Int), l.Nodup → (∀ x ∈ l, x ∈ D) → l.length ≤ D.length
  | [], D, _, _ => Nat.zero_le _
  | a :: l, D, h, s => by
    obtain ⟨h1, h2⟩ := List.nodup_cons.mp h
    have ha : a ∈ D := s a (List.mem_cons_self ..)
    have ih := nodup_le l (D.erase a) h2 fun x hx => (List.mem_erase_of_ne (fun z : x = a => h1 (by rw [← z]; exact hx))).mpr (s x (List.mem_cons_of_mem _ hx))
    rw [List.length_erase_of_mem ha] at ih
    have : 0 < D.length := List.length_pos_of_mem ha
    rw [List.length_cons]
    omega
theorem kinds_le {k : Int} (hk : k ≤ 4) {R : List Int} (h : R.Nodup) (hr : ∀ x ∈ R, 0 ≤ x ∧ x < k) : R.length ≤ 4 :=
  nodup_le R [0, 1, 2, 3] h fun x hx => by
    have := hr x hx
    simp only [List.mem_cons, List.not_mem_nil, or_false]
    omega
theorem inV_ints (g : Int) : ∀ R : List Int, inV (.int g) (R.map V.int) = decide (g ∈ R)
  | [] => rfl
  | r :: R => by
    have ih := inV_ints g R
    unfold inV at *
    rw [List.map_cons, List.any_cons, ih]
    show (r == g || decide (g ∈ R)) = decide (g ∈ r :: R)
    by_cases e : r = g
    · subst e
      simp
    · have e2 : ¬ g = r := fun z => e z.symm
      simp [e, e2]
theorem flat_map_ints (R : List Int) : (R.map V.int).all flatV = true := by
  rw [List.all_map]
  exact List.all_eq_true.mpr fun _ _ => rfl
theorem lay_nats : ∀ ns : List Nat, PyData.canLayAll0 (ns.map fun n : Nat => PyData.int (n : Int)) = true
  | [] => by simp [PyData.canLayAll0]
  | n :: ns => by simp [PyData.canLayAll0, PyData.canLay0, lay_nats ns]
theorem depth_nats : ∀ ns : List Nat, PyData.depthAll (ns.map fun n : Nat => PyData.int (n : Int)) = 0
  | [] => by simp [PyData.depthAll]
  | n :: ns => by simp [PyData.depthAll, PyData.depth, depth_nats ns]
theorem shaped_ints (ns : List Nat) : SeqAt.shaped (.tuple (ns.map fun n : Nat => PyData.int (n : Int))) = true := by
  have h2 : PyData.depth (.tuple (ns.map fun n : Nat => PyData.int (n : Int))) ≤ 64 := by
    simp only [PyData.depth, depth_nats]
    omega
  show (PyData.canLay0 (.tuple (ns.map fun n : Nat => PyData.int (n : Int))) && decide (PyData.depth (.tuple (ns.map fun n : Nat => PyData.int (n : Int))) ≤ 64)) = true
  rw [Bool.and_eq_true]
  exact ⟨by simp only [PyData.canLay0]; exact lay_nats ns, decide_eq_true h2⟩
theorem dp_trail {K : PySem.W.Frag} {H : Hp} : ∀ T : List Nat, DpAll K H (T.map nv) (T.map fun n : Nat => PyData.int (n : Int))
  | [] => .nil
  | n :: T => .cons (.int (n : Int)) (dp_trail T)
section
variable {P : Program} {w : World} {K : PySem.W.Frag} {mg : Str → Option Value} {base : Heap}
/-! ### reached_from -/
def spReach (K : PySem.W.Frag) : Sp := fun vs H Q _ => ∃ (p : Addr) (k c : Int) (os : List Off), vs = [.ref p, .int c] ∧ BoardAt K H p k os ∧ OsOk k os ∧ 0 ≤ c ∧ c < k ∧
  ∀ (H' : Hp) (D : Addr) (R : List Int), Same H H' → H D = none → H' D = some (.lst (R.map V.int)) → R.length ≤ 4 → (∀ x ∈ R, 0 ≤ x ∧ x < k) → (∀ x, x ∈ R ↔ Reach os c x) → Q (.ref D) H'
/-- between the turns: found is R, its first a kinds are done -/
structure RInv (k c : Int) (os : List Off) (R : List Int) (a : Nat) : Prop where
  nd : R.Nodup
  rg : ∀ x ∈ R, 0 ≤ x ∧ x < k
  re : ∀ x ∈ R, Reach os c x
  c0 : c ∈ R
  le : a ≤ R.length
  dn : ∀ n (h : n < R.length), n < a → ∀ i, Giv os i → src os i = R[n] → dst os i ∈ R
theorem ok_ReachedFrom (D : Dfn K mg "reached_from" sReachedFrom ["board", "kind"]) (GGiving : Ok P w K mg base 1 "giving" ["board", "kind"] (spGiv K)) (mlen : mg "len" = none) : Ok P w K mg base 2 "reached_from" ["board", "kind"] (spReach K) := by
  refine ok_by D scReachedFrom (fun vs H Q E h => ?_) (fun f cdv A outer s H vs Q E hr h => ?_)
  · obtain ⟨p, k, c, os, rfl, _⟩ := h
    rfl
  · obtain ⟨p, k, c, os, rfl, B, ok, hc0, hck, q⟩ := h
    refine ⟨_, (pss_cons (ps_set (i := 2) scReachedFrom.nd rfl (.inl rfl) (pe_lst (pa_cons (pv 1) pa_nil)))
    (pss_cons (ps_set (i := 3) scReachedFrom.nd rfl (.inl rfl) pe_int)
    (pss_cons (ps_while PassesOwn.never (pt_cmpR op_lt (pv 3) (pe_callB call_len_seq (by rfl) mlen PySem.boot_len (pa_cons (pv 2) pa_nil)) (nomark _))
      (pss_cons (ps_for PassesOwn.never rfl (pi_list (pe_ok GGiving (hr.mono (by decide)) (by rfl) (pa_cons (pv 0) (pa_cons (pe_ix ix_list (pv 2) (pv 3) (fun _ _ => rfl)) pa_nil)))) (pg_name (i := 4) scReachedFrom.nd rfl (.inl rfl))
      (pss_one (ps_if (pt_cmpR op_notIn_seq (pe_ix ix_tup (pe_ix ix_tup (pe_ix ix_tup (pv 0) pe_int (fun _ _ => rfl)) (pv 4) (fun _ _ => rfl)) pe_int (fun _ _ => rfl)) (pv 2) (by rfl)) (pss_one (ps_expr (pe_bm PySem.F.plainAttrs_list PySem.F.slot_list_append PySem.F.type_list_append mt_append (pv 2) (pa_cons (pe_ix ix_tup (pe_ix ix_tup (pe_ix ix_tup (pv 0) pe_int (fun _ _ => rfl)) (pv 4) (fun _ _ => rfl)) pe_int (fun _ _ => rfl)) pa_nil)))) pss_nil)))
    (pss_one (ps_aug (i := 3) scReachedFrom.nd rfl (.inl rfl) pe_int ip_add))))
    (pss_one (ps_ret (pv 2)))))), ?_⟩
    refine ⟨_, rfl, (by show 1 ≤ sizeLine; decide), fun F nF => ?_⟩
    have sF : Same H (upd H F (.lst [.int c])) := same_upd nF
    refine while_by (fun σ H' => ∃ (a : Nat) (x4 : Option V) (R : List Int), σ = [some (.ref p), some (.int c), some (.ref F), some (.int (a : Nat)), x4] ∧ Same H H' ∧ H' F = some (.lst (R.map V.int)) ∧ RInv k c os R a)
      (fun σ _ => match σ with | [_, _, _, some (.int a), _] => (5 - a).toNat | _ => 0) ⟨0, none, [c], rfl, sF, upd_same, ?_⟩ ?_ ?_
    · exact ⟨by simp, fun x hx => by rw [List.mem_singleton.mp hx]; exact ⟨hc0, hck⟩, fun x hx => by rw [List.mem_singleton.mp hx]; exact Reach.refl c, List.mem_singleton.mpr rfl, Nat.zero_le _, fun n _ h => absurd h (Nat.not_lt_zero _)⟩
    · rintro σ H' ⟨a, x4, R, rfl, sm, eF, I⟩
      have hl4 := kinds_le ok.k4 I.nd I.rg
      refine ⟨_, rfl, _, rfl, F, _, rfl, .inl (SqL.of eF), _, _, rfl, rfl, _, rfl, ?_⟩
      rw [List.length_map]
      by_cases hlt : a < R.length
      · rw [decide_eq_true (show ((a : Nat) : Int) < ((R.length : Nat) : Int) by omega)]
        refine iteT ⟨_, rfl, _, rfl, _, rfl, F, _, (a : Int), .int R[a], rfl, rfl, SqL.of eF, atI_nat (by rw [List.getElem?_map, List.getElem?_eq_getElem hlt]; rfl), p, k, R[a], os, rfl, B.same sm, ok, fun H1 D1 s1 n1 e1 => ?_⟩
        have hDF : D1 ≠ F := fun z => by
          rw [z, eF] at n1
          cases n1
        refine ⟨D1, rfl, ⟨_, SqL.of e1⟩, for_list (K := K) (a := D1) (xs := (givs os R[a]).map nv)
          (fun i σ H2 => ∃ x4 R', σ = [some (.ref p), some (.int c), some (.ref F), some (.int (a : Nat)), x4] ∧ Same H H2 ∧ H2 D1 = some (.lst ((givs os R[a]).map nv)) ∧ H2 F = some (.lst (R'.map V.int)) ∧
            R'.Nodup ∧ (∀ x ∈ R', 0 ≤ x ∧ x < k) ∧ (∀ x ∈ R', Reach os c x) ∧ (∃ ext, R' = R ++ ext) ∧ ∀ j ∈ (givs os R[a]).take i, dst os j ∈ R')
          ⟨x4, R, rfl, sm.trans s1, e1, s1 _ _ eF, I.nd, I.rg, I.re, ⟨[], by simp⟩, fun j h => by simp at h⟩ (fun i σ H2 _ ⟨_, _, _, _, e, _⟩ => SqL.of e) ?_ ?_⟩
        · rintro i x σ H2 hx ⟨x4, R', rfl, s2, e2, eF2, nd2, rg2, re2, ⟨ext, ex2⟩, dn2⟩
          obtain ⟨hi, ex⟩ := List.getElem?_eq_some_iff.mp hx
          rw [List.length_map] at hi
          rw [List.getElem_map] at ex
          subst ex
          have hgiv := mem_givs.mp (List.getElem_mem hi)
          have htk : (givs os R[a]).take (i + 1) = (givs os R[a]).take i ++ [(givs os R[a])[i]] := List.take_succ_eq_append_getElem hi
          generalize (givs os R[a])[i] = e at *
          have he := hgiv.1.1
          have hoff := ok.each e he
          have B2 := B.same s2
          refine rd_off (j := 2) rfl B2 he rfl (rd_var rfl) ⟨_, rfl, F, _, rfl, .inl (SqL.of eF2), rfl, flat_map_ints R', _, rfl, ?_⟩
          rw [if_pos rfl, inV_ints]
          by_cases hin : (off os e).b ∈ R'
          · rw [decide_eq_true hin]
            refine iteF ⟨_, R', rfl, s2, e2, eF2, nd2, rg2, re2, ⟨ext, ex2⟩, fun j hj => ?_⟩
            rw [htk] at hj
            rcases List.mem_append.mp hj with hj | hj
            · exact dn2 j hj
            · rw [List.mem_singleton.mp hj]
              exact hin
          · rw [decide_eq_false hin]
            refine iteT ⟨_, rfl, .inl ⟨rfl, _, SqL.of eF2⟩, rd_off (j := 2) rfl B2 he rfl (rd_var rfl) ⟨F, _, _, rfl, rfl, eF2, ?_, ?_⟩⟩
            · have := kinds_le ok.k4 nd2 rg2
              rw [List.length_map]
              exact small1000 (by omega)
            · refine ⟨_, R' ++ [(off os e).b], rfl, same_put s2 nF, ?_, ?_, ?_, fun x hx => ?_, fun x hx => ?_, ⟨ext ++ [(off os e).b], by rw [ex2, List.append_assoc]⟩, fun j hj => ?_⟩
              · rw [upd_ne hDF]
                exact e2
              · rw [upd_same, List.map_append]
                rfl
              · rw [List.nodup_append]
                refine ⟨nd2, by simp, fun x hx y hy z => ?_⟩
                rw [List.mem_singleton.mp hy] at z
                exact hin (z ▸ hx)
              · rcases List.mem_append.mp hx with hx | hx
                · exact rg2 x hx
                · rw [List.mem_singleton.mp hx]
                  omega
              · rcases List.mem_append.mp hx with hx | hx
                · exact re2 x hx
                · rw [List.mem_singleton.mp hx]
                  exact Reach.step hgiv.1 (by rw [hgiv.2]; exact I.re _ (List.getElem_mem hlt))
              · rw [htk] at hj
                rcases List.mem_append.mp hj with hj | hj
                · exact List.mem_append_left _ (dn2 j hj)
                · rw [List.mem_singleton.mp hj]
                  exact List.mem_append_right _ (List.mem_singleton.mpr rfl)
        · rintro σ H2 ⟨x4, R', rfl, s2, e2, eF2, nd2, rg2, re2, ⟨ext, ex2⟩, dn2⟩
          rw [List.length_map, List.take_length] at dn2
          refine ⟨_, rfl, _, _, rfl, rfl, ⟨a + 1, x4, R', rfl, s2, eF2, nd2, rg2, re2, ?_, ?_, fun n hn hna i gi si => ?_⟩, ?_⟩
          · rw [ex2]
            exact List.mem_append_left _ I.c0
          · rw [ex2, List.length_append]
            omega
          · have hnR : n < R.length := by omega
            have en : R'[n] = R[n] := by
              subst ex2
              exact List.getElem_append_left hnR
            rw [en] at si
            by_cases hna' : n < a
            · rw [ex2]
              exact List.mem_append_left _ (I.dn n hnR hna' i gi si)
            · have : n = a := by omega
              subst this
              exact dn2 i (mem_givs.mpr ⟨gi, si⟩)
          · show (5 - ((a : Int) + 1)).toNat < (5 - (a : Int)).toNat
            omega
      · rw [decide_eq_false (show ¬ ((a : Nat) : Int) < ((R.length : Nat) : Int) by omega)]
        refine iteF ⟨_, rfl, q H' F R sm nF eF hl4 I.rg fun x => ⟨I.re x, ?_⟩⟩
        rintro ⟨W, hw, rfl⟩
        refine reach_closed (S := fun x => x ∈ R) (fun i gi si => ?_) W c I.c0 hw
        obtain ⟨n, hn, en⟩ := List.getElem_of_mem si
        exact I.dn n hn (by omega) i gi en.symm
    · rintro σ H Q Q' hq ⟨v, e, v2, e2, pp, ys, r1, r2, i, j, r3, r4, k, r5, r6⟩
      exact ⟨v, e, v2, e2, pp, ys, r1, r2, i, j, r3, r4, k, r5, hq _ _ r6⟩
/-! ### end_of -/
def spEnd (K : PySem.W.Frag) : Sp := fun vs H Q _ => ∃ (p t : Addr) (k c : Int) (os : List Off) (T : List Nat), vs = [.ref p, .int c, .ref t] ∧ BoardAt K H p k os ∧ TrAt K H t T ∧ (∀ i ∈ T, i < os.length) ∧ T.length ≤ 10 ∧
  ∀ H', Same H H' → Q (.int (endK os c T)) H'
theorem ok_EndOf (D : Dfn K mg "end_of" sEndOf ["board", "kind", "trail"]) : Ok P w K mg base 1 "end_of" ["board", "kind", "trail"] (spEnd K) := by
  refine ok_by D scEndOf (fun vs H Q E h => ?_) (fun f cdv A outer s H vs Q E hr h => ?_)
  · obtain ⟨p, t, k, c, os, T, rfl, _⟩ := h
    rfl
  · obtain ⟨p, t, k, c, os, T, rfl, B, St, hT, hl, q⟩ := h
    refine ⟨_, (pss_one (ps_ret (pe_ifExp (pt_cmpR (op_neD hr.units) (pv 2) (pe_tup pa_nil) (nomark _)) (pe_ix ix_tup (pe_ix ix_tup (pe_ix ix_tup (pv 0) pe_int (fun _ _ => rfl)) (pe_ix ix_tup (pv 2) (pe_un un_neg pe_int) (fun _ _ => rfl)) (fun _ _ => rfl)) pe_int (fun _ _ => rfl)) (pv 1)))), ?_⟩
    refine ⟨_, rfl, Nat.zero_le _, fun e ne => ?_⟩
    have se : Same H (upd H e (.tup [])) := same_upd ne
    refine ⟨_, .tuple [], .tup (same_seqT se St) (dp_trail T), .tup (SqT.of upd_same) .nil, shaped_ints T, shaped_ints [], _, rfl, ?_⟩
    cases hT' : T with
    | nil =>
      refine iteF ⟨_, rfl, ?_⟩
      rw [hT'] at q
      exact q _ se
    | cons i0 T0 =>
      rw [← hT']
      have hne : T ≠ [] := by
        rw [hT']
        exact List.cons_ne_nil _ _
      have e1 : (!PyData.eqv (.tuple (T.map fun n : Nat => PyData.int (n : Int))) (.tuple [])) = true := by
        rw [hT']
        simp [PyData.eqv, PyData.eqvAll]
      rw [e1]
      obtain ⟨T', l, el⟩ : ∃ T' l, T = T' ++ [l] := ⟨T.dropLast, T.getLast hne, (List.dropLast_concat_getLast hne).symm⟩
      have hlast : l < os.length := hT _ (by rw [el]; simp)
      have ee : endK os c T = dst os l := by
        rw [el, end_app]
        rfl
      rw [ee] at q
      refine iteT (rd_off (j := 2) rfl (B.same se) hlast rfl (fun R hR => ?_) (q _ se))
      refine ⟨_, rfl, 1, rfl, t, _, -1, _, rfl, rfl, same_seqT se St, ?_, hR⟩
      rw [el, List.map_append]
      exact atI_last _ _
end
end Sm
end
section
set_option Elab.async false
set_option linter.all false
set_option maxRecDepth 100000
set_option maxHeartbeats 4000000
namespace Sm
open PySem PySem.Spec PyProof.Rows L2 SmR
/-! ### trails: kinds, lengths -/
section
variable {k : Int} {os : List Off}
theorem kds_end : ∀ (T : List Nat) (c : Int), ∃ l, kds os c T = l ++ [endK os c T]
  | [], c => ⟨[], rfl⟩
  | i :: T, c => by
    obtain ⟨l, e⟩ := kds_end T (dst os i)
    refine ⟨c :: l, ?_⟩
    show c :: kds os (dst os i) T = c :: l ++ [endK os (dst os i) T]
    rw [e]
    rfl
theorem chain_idx : ∀ (T : List Nat) (c : Int), Chain os c T → ∀ i ∈ T, i < os.length
  | [], _, _, i, h => by cases h
  | j :: T, c, ch, i, h => by
    rcases List.mem_cons.mp h with rfl | h
    · exact ch.1.1.1
    · exact chain_idx T _ ch.2.2 i h
theorem trail_kds (ok : OsOk k os) {c : Int} (h0 : 0 ≤ c) (h1 : c < k) {T : List Nat} (t : Chain os c T) : ∀ x ∈ kds os c T, 0 ≤ x ∧ x < k := by
  intro x hx
  rcases List.mem_cons.mp hx with rfl | hx
  · exact ⟨h0, h1⟩
  · obtain ⟨i, hi, rfl⟩ := List.mem_map.mp hx
    have := ok.each i (chain_idx T c t i hi)
    exact ⟨this.2.2.1, this.2.2.2.1⟩
theorem trail_len (ok : OsOk k os) {c : Int} (h0 : 0 ≤ c) (h1 : c < k) {T : List Nat} (t : Trail os c T) : T.length ≤ 3 := by
  have := kinds_le ok.k4 t.2 (trail_kds ok h0 h1 t.1)
  unfold kds at this
  rw [List.length_cons, List.length_map] at this
  omega
theorem end_rg (ok : OsOk k os) {c : Int} (h0 : 0 ≤ c) (h1 : c < k) {T : List Nat} (t : Chain os c T) : 0 ≤ endK os c T ∧ endK os c T < k :=
  trail_kds ok h0 h1 t _ (end_mem c T)
/-- a weight that pays for all that may come of a trail -/
def pot (T : List Nat) : Nat := 17 ^ (4 - T.length)
def psum (W : List (List Nat)) : Nat := (W.map pot).sum
theorem pot_pos (T : List Nat) : 1 ≤ pot T := by
  unfold pot
  exact Nat.pow_pos (by decide)
theorem psum_len : ∀ W : List (List Nat), W.length ≤ psum W
  | [] => Nat.le_refl _
  | T :: W => by
    have := psum_len W
    have := pot_pos T
    show W.length + 1 ≤ pot T + psum W
    omega
theorem psum_app (W U : List (List Nat)) : psum (W ++ U) = psum W + psum U := by
  unfold psum
  rw [List.map_append, List.sum_append]
theorem pot_step {T : List Nat} (h : T.length ≤ 3) : pot T = 17 * 17 ^ (3 - T.length) := by
  unfold pot
  rw [show 4 - T.length = (3 - T.length) + 1 by omega, Nat.pow_succ, Nat.mul_comm]
theorem pot_snoc {T : List Nat} {e : Nat} : pot (T ++ [e]) = 17 ^ (3 - T.length) := by
  unfold pot
  rw [List.length_append, List.length_singleton]
  congr 1
  omega
end
/-! ### what stays when one of two lists is written -/
def Kp (K : PySem.W.Frag) (W F : Addr) (H H' : Hp) : Prop := (∀ r xs, SqT K H r xs → SqT K H' r xs) ∧ ∀ l ys, l ≠ W → l ≠ F → H l = some (.lst ys) → H' l = some (.lst ys)
section
variable {K : PySem.W.Frag} {W F : Addr} {H H' H2 : Hp}
theorem Kp.of (s : Same H H') : Kp K W F H H' := ⟨fun _ _ h => same_seqT s h, fun _ _ _ _ h => s _ _ h⟩
theorem Kp.trans (a : Kp K W F H H') (b : Kp K W F H' H2) : Kp K W F H H2 := ⟨fun r xs h => b.1 r xs (a.1 r xs h), fun l ys h1 h2 h => b.2 l ys h1 h2 (a.2 l ys h1 h2 h)⟩
theorem seqT_wr {r p : Addr} {xs ys zs : List V} (h : SqT K H r xs) (e : H p = some (.lst ys)) : SqT K (upd H p (.lst zs)) r xs := by
  rcases h with (h | ⟨o, h⟩) | h
  · exact .inl (.inl (by rw [upd_ne (ne_of h e (by intro z; cases z))]; exact h))
  · exact .inl (.inr ⟨o, by rw [upd_ne (ne_of h e (by intro z; cases z))]; exact h⟩)
  · exact .inr h
theorem Kp.w {ys zs : List V} (e : H W = some (.lst ys)) : Kp K W F H (upd H W (.lst zs)) := ⟨fun _ _ h => seqT_wr h e, fun _ _ h _ q => by rw [upd_ne h]; exact q⟩
theorem Kp.f {ys zs : List V} (e : H F = some (.lst ys)) : Kp K W F H (upd H F (.lst zs)) := ⟨fun _ _ h => seqT_wr h e, fun _ _ _ h q => by rw [upd_ne h]; exact q⟩
end
/-- the waiting list -/
def WAt (K : PySem.W.Frag) (H : Hp) (Wa F : Addr) (os : List Off) (c : Int) (vs : List V) (W : List (List Nat)) : Prop :=
  vs.length = W.length ∧ ∀ (i : Nat) (T : List Nat), W[i]? = some T → ∃ r t l, vs[i]? = some (.ref r) ∧ SqT K H r [.ref t, .ref l] ∧ TrAt K H t T ∧ H l = some (.lst ((kds os c T).map V.int)) ∧ l ≠ Wa ∧ l ≠ F
theorem WAt.keep {K : PySem.W.Frag} {H H' : Hp} {Wa F : Addr} {os : List Off} {c : Int} {vs : List V} {W : List (List Nat)} (k : Kp K Wa F H H') (b : WAt K H Wa F os c vs W) : WAt K H' Wa F os c vs W := by
  refine ⟨b.1, fun i T h => ?_⟩
  obtain ⟨r, t, l, e1, e2, e3, e4, n1, n2⟩ := b.2 i T h
  exact ⟨r, t, l, e1, k.1 _ _ e2, k.1 _ _ e3, k.2 _ _ n1 n2 e4, n1, n2⟩
theorem WAt.snoc {K : PySem.W.Frag} {H : Hp} {Wa F : Addr} {os : List Off} {c : Int} {vs : List V} {W : List (List Nat)} (b : WAt K H Wa F os c vs W) {T : List Nat} {r t l : Addr} (e2 : SqT K H r [.ref t, .ref l]) (e3 : TrAt K H t T)
    (e4 : H l = some (.lst ((kds os c T).map V.int))) (n1 : l ≠ Wa) (n2 : l ≠ F) : WAt K H Wa F os c (vs ++ [.ref r]) (W ++ [T]) := by
  refine ⟨by rw [List.length_append, List.length_append, b.1, List.length_singleton, List.length_singleton], fun i U h => ?_⟩
  by_cases hi : i < W.length
  · rw [List.getElem?_append_left hi] at h
    rw [List.getElem?_append_left (by rw [b.1]; exact hi)]
    exact b.2 i U h
  · have hl := (List.getElem?_eq_some_iff.mp h).1
    rw [List.length_append, List.length_singleton] at hl
    have e : i = W.length := by omega
    subst e
    rw [List.getElem?_append_right (Nat.le_refl _), Nat.sub_self] at h
    cases h
    exact ⟨r, t, l, by rw [← b.1, List.getElem?_append_right (Nat.le_refl _), Nat.sub_self]; rfl, e2, e3, e4, n1, n2⟩
theorem TrsAt.snoc {K : PySem.W.Frag} {H : Hp} {vs : List V} {W : List (List Nat)} (b : TrsAt K H vs W) {T : List Nat} {t : Addr} (e3 : TrAt K H t T) : TrsAt K H (vs ++ [.ref t]) (W ++ [T]) := by
  refine ⟨by rw [List.length_append, List.length_append, b.1, List.length_singleton, List.length_singleton], fun i U h => ?_⟩
  by_cases hi : i < W.length
  · rw [List.getElem?_append_left hi] at h
    rw [List.getElem?_append_left (by rw [b.1]; exact hi)]
    exact b.2 i U h
  · have hl := (List.getElem?_eq_some_iff.mp h).1
    rw [List.length_append, List.length_singleton] at hl
    have e : i = W.length := by omega
    subst e
    rw [List.getElem?_append_right (Nat.le_refl _), Nat.sub_self] at h
    cases h
    exact ⟨t, by rw [← b.1, List.getElem?_append_right (Nat.le_refl _), Nat.sub_self]; rfl, e3⟩
theorem TrsAt.keep {K : PySem.W.Frag} {H H' : Hp} {Wa F : Addr} {vs : List V} {TS : List (List Nat)} (k : Kp K Wa F H H') (b : TrsAt K H vs TS) : TrsAt K H' vs TS :=
  ⟨b.1, fun i T h => let ⟨p, e1, e2⟩ := b.2 i T h; ⟨p, e1, k.1 _ _ e2⟩⟩
/-- trail + (index,) -/
theorem rd_snoc {K : PySem.W.Frag} {σ : L2.St} {H : Hp} {Q : VK} {n m e : Nat} {t : Addr} {T : List Nat} (hn : σ[n]? = some (some (.ref t))) (hm : σ[m]? = some (some (nv e))) (S : TrAt K H t T) (hl : T.length ≤ 1000)
    (q : ∀ H' t3, Same H H' → TrAt K H' t3 (T ++ [e]) → Q (.ref t3) H') : tOp (rCatA K) (tVar n) (tTup (tCons (tVar m) tNil)) σ H Q := by
  refine ⟨_, hn, _, hm, (by show 1 ≤ sizeLine; decide), fun t1 n1 => ?_⟩
  have s1 : Same H (upd H t1 (.tup [nv e])) := same_upd n1
  refine ⟨t, t1, T.map nv, [nv e], rfl, rfl, same_seqT s1 S, .inl (.inl upd_same), ?_, fun h => ?_, fun _ h => ?_, fun _ _ p np => ?_⟩
  · rw [List.length_map]
    show T.length + 1 ≤ sizeLine
    rw [sizeLine_eq]
    omega
  · have : T = [] := List.map_eq_nil_iff.mp h
    subst this
    exact q _ t1 s1 (.inl (.inl upd_same))
  · cases h
  · refine q _ p (s1.trans (same_upd np)) (.inl (.inl ?_))
    rw [upd_same, List.map_append]
    rfl
/-- between the turns: waiting is W, its first a trails are done -/
structure TInv (os : List Off) (c : Int) (W : List (List Nat)) (a : Nat) : Prop where
  all : ∀ T ∈ W, Trail os c T
  nil : [] ∈ W
  le : a ≤ W.length
  pot : a + psum (W.drop a) ≤ 83521
  dn : ∀ n (h : n < W.length), n < a → ∀ i, Best os i → src os i = endK os c W[n] → dst os i ∉ kds os c W[n] → W[n] ++ [i] ∈ W
theorem TInv.len {os : List Off} {c : Int} {W : List (List Nat)} {a : Nat} (I : TInv os c W a) : W.length ≤ 83521 := by
  have h1 := psum_len (W.drop a)
  rw [List.length_drop] at h1
  have := I.pot
  have := I.le
  omega
/-- at the end all trails are there -/
theorem TInv.full {os : List Off} {c : Int} {W : List (List Nat)} (I : TInv os c W W.length) : ∀ (n : Nat) (T : List Nat), T.length = n → Trail os c T → T ∈ W
  | 0, T, hn, _ => by
    rw [List.length_eq_zero_iff.mp hn]
    exact I.nil
  | n + 1, T, hn, t => by
    have hne : T ≠ [] := fun z => by
      rw [z] at hn
      cases hn
    obtain ⟨U, i, e⟩ : ∃ U i, T = U ++ [i] := ⟨T.dropLast, T.getLast hne, (List.dropLast_concat_getLast hne).symm⟩
    subst e
    have hU : U ∈ W := I.full n U (by simpa using hn) t.left
    obtain ⟨m, hm, em⟩ := List.getElem_of_mem hU
    have ch := (chain_app.mp t.1).2
    have nd := t.2
    rw [kds_app, List.nodup_append] at nd
    subst em
    exact I.dn m hm hm i ch.1 ch.2.1 fun z => nd.2.2 _ z _ (List.mem_singleton.mpr rfl) rfl
theorem big_line {n : Nat} (h : n ≤ 1400000) : n < sizeLine := by
  rw [sizeLine_eq]
  omega
section
variable {P : Program} {w : World} {K : PySem.W.Frag} {mg : Str → Option Value} {base : Heap}
/-! ### trails_from -/
def spTrails (K : PySem.W.Frag) : Sp := fun vs H Q _ => ∃ (p : Addr) (k c : Int) (os : List Off), vs = [.ref p, .int c] ∧ BoardAt K H p k os ∧ OsOk k os ∧ 0 ≤ c ∧ c < k ∧
  ∀ (H' : Hp) (D : Addr) (us : List V) (TS : List (List Nat)), Same H H' → H D = none → H' D = some (.lst us) → TrsAt K H' us TS → TS.length ≤ 83521 → (∀ T, T ∈ TS ↔ Trail os c T) → Q (.ref D) H'
theorem ok_TrailsFrom (D : Dfn K mg "trails_from" sTrailsFrom ["board", "kind"]) (GBestSteps : Ok P w K mg base 4 "best_steps" ["board", "kind"] (spSteps K)) (mlen : mg "len" = none) : Ok P w K mg base 5 "trails_from" ["board", "kind"] (spTrails K) := by
  refine ok_by D scTrailsFrom (fun vs H Q E h => ?_) (fun f cdv A outer s H vs Q E hr h => ?_)
  · obtain ⟨p, k, c, os, rfl, _⟩ := h
    rfl
  · obtain ⟨p, k, c, os, rfl, B, ok, hc0, hck, q⟩ := h
    refine ⟨_, (pss_cons (ps_set (i := 2) scTrailsFrom.nd rfl (.inl rfl) (pe_lst pa_nil))
    (pss_cons (ps_set (i := 3) scTrailsFrom.nd rfl (.inl rfl) (pe_lst (pa_cons (pe_tup (pa_cons (pe_tup pa_nil) (pa_cons (pe_lst (pa_cons (pv 1) pa_nil)) pa_nil))) pa_nil)))
    (pss_cons (ps_set (i := 4) scTrailsFrom.nd rfl (.inl rfl) pe_int)
    (pss_cons (ps_while PassesOwn.never (pt_cmpR op_lt (pv 4) (pe_callB call_len_seq (by rfl) mlen PySem.boot_len (pa_cons (pv 3) pa_nil)) (nomark _))
      (pss_cons (ps_asg (pe_ix ix_list (pv 3) (pv 4) (fun _ _ => rfl)) (pg_tup rfl (pgs_cons (pg_name (i := 5) scTrailsFrom.nd rfl (.inl rfl)) (pgs_cons (pg_name (i := 6) scTrailsFrom.nd rfl (.inl rfl)) pgs_nil))))
    (pss_cons (ps_expr (pe_bm PySem.F.plainAttrs_list PySem.F.slot_list_append PySem.F.type_list_append mt_append (pv 2) (pa_cons (pv 5) pa_nil)))
    (pss_cons (ps_for PassesOwn.never rfl (pi_list (pe_ok GBestSteps (hr.mono (by decide)) (by rfl) (pa_cons (pv 0) (pa_cons (pe_ix ix_list (pv 6) (pe_un un_neg pe_int) (fun _ _ => rfl)) pa_nil)))) (pg_name (i := 7) scTrailsFrom.nd rfl (.inl rfl))
      (pss_one (ps_if (pt_cmpR op_notIn_seq (pe_ix ix_tup (pe_ix ix_tup (pe_ix ix_tup (pv 0) pe_int (fun _ _ => rfl)) (pv 7) (fun _ _ => rfl)) pe_int (fun _ _ => rfl)) (pv 6) (by rfl)) (pss_one (ps_expr (pe_bm PySem.F.plainAttrs_list PySem.F.slot_list_append PySem.F.type_list_append mt_append (pv 3) (pa_cons (pe_tup (pa_cons (pe_op op_catA (pv 5) (pe_tup (pa_cons (pv 7) pa_nil))) (pa_cons (pe_op op_cat (pv 6) (pe_lst (pa_cons (pe_ix ix_tup (pe_ix ix_tup (pe_ix ix_tup (pv 0) pe_int (fun _ _ => rfl)) (pv 7) (fun _ _ => rfl)) pe_int (fun _ _ => rfl)) pa_nil))) pa_nil))) pa_nil)))) pss_nil)))
    (pss_one (ps_aug (i := 4) scTrailsFrom.nd rfl (.inl rfl) pe_int ip_add))))))
    (pss_one (ps_ret (pv 2))))))), ?_⟩
    -- found = []; waiting = [((), [kind])]
    refine ⟨Nat.zero_le _, fun F nF => ?_⟩
    have z0 : Same H (upd H F (.lst [])) := same_upd nF
    refine ⟨Nat.zero_le _, fun t0 nt0 => ?_⟩
    have z1 := same_upd (o := .tup []) nt0
    refine ⟨_, rfl, (by show 1 ≤ sizeLine; decide), fun l0 nl0 => ?_⟩
    have z2 := same_upd (o := .lst [.int c]) nl0
    refine ⟨(by show 2 ≤ sizeLine; decide), fun r0 nr0 => ?_⟩
    have z3 := same_upd (o := .tup [.ref t0, .ref l0]) nr0
    refine ⟨(by show 1 ≤ sizeLine; decide), fun Wa nWa => ?_⟩
    have z4 := same_upd (o := .lst [.ref r0]) nWa
    have y1 := z0.trans z1
    have y2 := y1.trans z2
    have y3 := y2.trans z3
    have y4 := y3.trans z4
    have hF4 := (((z1.trans z2).trans z3).trans z4) _ _ (upd_same (H := H) (a := F) (o := .lst []))
    have hl4 := (z3.trans z4) _ _ (upd_same (H := upd (upd H F (.lst [])) t0 (.tup [])) (a := l0) (o := .lst [.int c]))
    have ht4 := ((z2.trans z3).trans z4) _ _ (upd_same (H := upd H F (.lst [])) (a := t0) (o := .tup []))
    have hr4 := z4 _ _ (upd_same (H := upd (upd (upd H F (.lst [])) t0 (.tup [])) l0 (.lst [.int c])) (a := r0) (o := .tup [.ref t0, .ref l0]))
    have nW0 : H Wa = none := y3.free nWa
    have hWF : Wa ≠ F := fun z => by
      rw [z, ((z1.trans z2).trans z3) _ _ upd_same] at nWa
      cases nWa
    have hlW : l0 ≠ Wa := fun z => by
      rw [← z, z3 _ _ upd_same] at nWa
      cases nWa
    have hlF : l0 ≠ F := fun z => by
      rw [z, z1 _ _ upd_same] at nl0
      cases nl0
    refine while_by (fun σ H' => ∃ (a : Nat) (x5 x6 x7 : Option V) (W : List (List Nat)) (fv wv : List V), σ = [some (.ref p), some (.int c), some (.ref F), some (.ref Wa), some (.int (a : Nat)), x5, x6, x7] ∧ Same H H' ∧
        H' F = some (.lst fv) ∧ TrsAt K H' fv (W.take a) ∧ H' Wa = some (.lst wv) ∧ WAt K H' Wa F os c wv W ∧ TInv os c W a)
      (fun σ _ => match σ with | [_, _, _, _, some (.int a), _, _, _] => (90000 - a).toNat | _ => 0) ⟨0, none, none, none, [[]], [], [.ref r0], rfl, y4, hF4, ?_, upd_same, ?_, ?_⟩ ?_ ?_
    · exact ⟨rfl, fun i T h => by simp at h⟩
    · refine ⟨rfl, fun i T h => ?_⟩
      cases i with
      | zero =>
        cases h
        exact ⟨r0, t0, l0, rfl, SqT.of hr4, .inl (.inl ht4), hl4, hlW, hlF⟩
      | succ i => simp at h
    · exact ⟨fun T h => by rw [List.mem_singleton.mp h]; exact Trail.nil c, List.mem_singleton.mpr rfl, Nat.zero_le _, by decide, fun n _ h => absurd h (Nat.not_lt_zero _)⟩
    · rintro σ H' ⟨a, x5, x6, x7, W, fv, wv, rfl, sm, eF, tF, eW, tW, I⟩
      have hlen := I.len
      refine ⟨_, rfl, _, rfl, Wa, _, rfl, .inl (SqL.of eW), _, _, rfl, rfl, _, rfl, ?_⟩
      rw [tW.1]
      by_cases hlt : a < W.length
      · rw [decide_eq_true (show ((a : Nat) : Int) < ((W.length : Nat) : Int) by omega)]
        obtain ⟨r, t, l, er, sr, st, el, nlW, nlF⟩ := tW.2 a W[a] (List.getElem?_eq_getElem hlt)
        have tr := I.all _ (List.getElem_mem hlt)
        have htake : W.take (a + 1) = W.take a ++ [W[a]] := List.take_succ_eq_append_getElem hlt
        have hdrop : W.drop a = W[a] :: W.drop (a + 1) := List.drop_eq_getElem_cons hlt
        have hdn := I.dn
        have hpot := I.pot
        rw [hdrop] at hpot
        generalize W[a] = T at *
        have hT3 := trail_len ok hc0 hck tr
        have hTi := chain_idx T c tr.1
        obtain ⟨kl, ekl⟩ := kds_end (os := os) T c
        have hend := end_rg ok hc0 hck tr.1
        refine iteT ⟨_, rfl, _, rfl, Wa, _, (a : Int), .ref r, rfl, rfl, SqL.of eW, atI_nat er, ?_⟩
        refine ⟨r, [.ref t, .ref l], rfl, sr, rfl, _, _, rfl, _, _, rfl, rfl, ?_⟩
        -- found.append(trail)
        refine ⟨_, rfl, .inl ⟨rfl, _, SqL.of eF⟩, _, rfl, F, _, _, rfl, rfl, eF, ?_, ?_⟩
        · rw [tF.1, List.length_take]
          exact big_line (by omega)
        have k1 : Kp K Wa F H' (upd H' F (.lst (fv ++ [.ref t]))) := Kp.f eF
        have s1 : Same H (upd H' F (.lst (fv ++ [.ref t]))) := same_put sm nF
        have eF1 : (upd H' F (.lst (fv ++ [.ref t]))) F = some (.lst (fv ++ [.ref t])) := upd_same
        have eW1 : (upd H' F (.lst (fv ++ [.ref t]))) Wa = some (.lst wv) := by
          rw [upd_ne hWF]
          exact eW
        have tF1 := (tF.keep k1).snoc (k1.1 _ _ st)
        rw [← htake] at tF1
        have tW1 := tW.keep k1
        have st1 := k1.1 _ _ st
        have el1 := k1.2 _ _ nlW nlF el
        generalize upd H' F (.lst (fv ++ [.ref t])) = Hf at *
        -- best_steps(board, kinds[-1])
        refine ⟨_, rfl, _, rfl, 1, rfl, l, _, -1, _, rfl, rfl, SqL.of el1, (by rw [ekl, List.map_append]; exact atI_last _ _), p, k, endK os c T, os, rfl, B.same s1, ok, fun H1 D1 Ix s2 n1 e1 hI16 hIx => ?_⟩
        have nDW : D1 ≠ Wa := fun z => by
          rw [z, eW1] at n1
          cases n1
        refine ⟨D1, rfl, ⟨_, SqL.of e1⟩, for_list (K := K) (a := D1) (xs := Ix.map nv)
          (fun i σ H2 => ∃ x7 ext wv2, σ = [some (.ref p), some (.int c), some (.ref F), some (.ref Wa), some (.int (a : Nat)), some (.ref t), some (.ref l), x7] ∧ Same H H2 ∧ H2 D1 = some (.lst (Ix.map nv)) ∧
            H2 F = some (.lst (fv ++ [.ref t])) ∧ TrsAt K H2 (fv ++ [.ref t]) (W.take (a + 1)) ∧ H2 Wa = some (.lst wv2) ∧ WAt K H2 Wa F os c wv2 (W ++ ext) ∧ TrAt K H2 t T ∧ H2 l = some (.lst ((kds os c T).map V.int)) ∧
            (∀ U ∈ ext, Trail os c U) ∧ psum ext ≤ i * 17 ^ (3 - T.length) ∧ ∀ j ∈ Ix.take i, dst os j ∉ kds os c T → T ++ [j] ∈ ext)
          ⟨x7, [], wv, rfl, s1.trans s2, e1, s2 _ _ eF1, tF1.same s2, s2 _ _ eW1, by rw [List.append_nil]; exact tW1.keep (Kp.of s2), same_seqT s2 st1, s2 _ _ el1, (fun U h => by cases h), Nat.zero_le _, (fun j h => by simp at h)⟩ (fun i σ H2 _ ⟨_, _, _, _, _, e, _⟩ => SqL.of e) ?_ ?_⟩
        · rintro i x σ H2 hx ⟨x7, ext, wv2, rfl, sm2, e2, eF2, tF2, eW2, tW2, st2, el2, hex, hps, hdone⟩
          obtain ⟨hi, ex⟩ := List.getElem?_eq_some_iff.mp hx
          rw [List.length_map] at hi
          rw [List.getElem_map] at ex
          subst ex
          obtain ⟨hbest, hsrc⟩ := (hIx _).mp (List.getElem_mem hi)
          have htk : Ix.take (i + 1) = Ix.take i ++ [Ix[i]] := List.take_succ_eq_append_getElem hi
          generalize Ix[i] = e at *
          have he := hbest.1.1
          have hoff := ok.each e he
          have B2 := B.same sm2
          have hmul : (i + 1) * 17 ^ (3 - T.length) = i * 17 ^ (3 - T.length) + 17 ^ (3 - T.length) := Nat.succ_mul _ _
          refine rd_off (j := 2) rfl B2 he rfl (rd_var rfl) ⟨_, rfl, l, _, rfl, .inl (SqL.of el2), rfl, flat_map_ints _, _, rfl, ?_⟩
          rw [if_pos rfl, inV_ints]
          by_cases hin : (off os e).b ∈ kds os c T
          · rw [decide_eq_true hin]
            refine iteF ⟨_, ext, wv2, rfl, sm2, e2, eF2, tF2, eW2, tW2, st2, el2, hex, Nat.le_trans hps (Nat.mul_le_mul_right _ (Nat.le_succ i)), fun j hj hnj => ?_⟩
            rw [htk] at hj
            rcases List.mem_append.mp hj with hj | hj
            · exact hdone j hj hnj
            · rw [List.mem_singleton.mp hj] at hnj
              exact absurd hin hnj
          · rw [decide_eq_false hin]
            have tr2 := tr.snoc hbest hsrc hin
            have hk2 : kds os c (T ++ [e]) = kds os c T ++ [(off os e).b] := by rw [kds_app]; rfl
            refine iteT ⟨_, rfl, .inl ⟨rfl, _, SqL.of eW2⟩, rd_snoc rfl rfl st2 (by omega) fun H3 t3 s3 st3 => ?_⟩
            have B3 := B2.same s3
            refine ⟨_, rfl, rd_off (j := 2) rfl B3 he rfl (rd_var rfl) ⟨(by show 1 ≤ sizeLine; decide), fun l1 nl1 => ?_⟩⟩
            have s4 := same_upd (o := .lst [.int (off os e).b]) nl1
            refine ⟨l, l1, _, _, rfl, rfl, (s3.trans s4) _ _ el2, upd_same, ?_, fun l2 nl2 => ?_⟩
            · rw [List.length_map]
              show _ + 1 ≤ sizeLine
              unfold kds
              rw [List.length_cons, List.length_map, sizeLine_eq]
              omega
            have s5 := same_upd (o := .lst ((kds os c T).map V.int ++ [V.int (off os e).b])) nl2
            refine ⟨(by show 2 ≤ sizeLine; decide), fun r3 nr3 => ?_⟩
            have s6 := same_upd (o := .tup [.ref t3, .ref l2]) nr3
            have s36 := ((s3.trans s4).trans s5).trans s6
            have el6 := s6 _ _ (upd_same (H := upd H3 l1 (.lst [.int (off os e).b])) (a := l2) (o := .lst ((kds os c T).map V.int ++ [V.int (off os e).b])))
            have st6 := same_seqT ((s4.trans s5).trans s6) st3
            have hl2W : l2 ≠ Wa := fun z => by
              rw [z, (s3.trans s4) _ _ eW2] at nl2
              cases nl2
            have hl2F : l2 ≠ F := fun z => by
              rw [z, (s3.trans s4) _ _ eF2] at nl2
              cases nl2
            have sr6 : SqT K (upd (upd (upd H3 l1 (.lst [.int (off os e).b])) l2 (.lst ((kds os c T).map V.int ++ [V.int (off os e).b]))) r3 (.tup [.ref t3, .ref l2])) r3 [.ref t3, .ref l2] := SqT.of upd_same
            generalize upd (upd (upd H3 l1 (.lst [.int (off os e).b])) l2 (.lst ((kds os c T).map V.int ++ [V.int (off os e).b]))) r3 (.tup [.ref t3, .ref l2]) = H6 at *
            have eW6 := s36 _ _ eW2
            have hlen2 : (W ++ ext).length ≤ 83521 + 83521 := by
              have h1 := psum_len ext
              have h2 : i * 17 ^ (3 - T.length) ≤ 16 * 17 ^ (3 - T.length) := Nat.mul_le_mul_right _ (by omega)
              have h3 := pot_step hT3
              have h4 : pot T ≤ 83521 := by
                have : psum (T :: W.drop (a + 1)) = pot T + psum (W.drop (a + 1)) := rfl
                omega
              rw [List.length_append]
              omega
            refine ⟨Wa, _, _, rfl, rfl, eW6, ?_, ?_⟩
            · rw [tW2.1]
              exact big_line (by omega)
            have k7 : Kp K Wa F H6 (upd H6 Wa (.lst (wv2 ++ [.ref r3]))) := Kp.w eW6
            have k27 := (Kp.of (W := Wa) (F := F) (K := K) s36).trans k7
            refine ⟨_, ext ++ [T ++ [e]], wv2 ++ [.ref r3], rfl, same_put (sm2.trans s36) nW0, ?_, ?_, tF2.keep k27, upd_same, ?_, k27.1 _ _ st2, k27.2 _ _ nlW nlF el2, fun U hU => ?_, ?_, fun j hj hnj => ?_⟩
            · rw [upd_ne nDW]
              exact s36 _ _ e2
            · rw [upd_ne hWF.symm]
              exact s36 _ _ eF2
            · rw [← List.append_assoc]
              refine (tW2.keep k27).snoc (k7.1 _ _ sr6) (k7.1 _ _ st6) (k7.2 _ _ hl2W hl2F ?_) hl2W hl2F
              rw [hk2, List.map_append]
              exact el6
            · rcases List.mem_append.mp hU with hU | hU
              · exact hex U hU
              · rw [List.mem_singleton.mp hU]
                exact tr2
            · rw [psum_app, hmul]
              have : psum [T ++ [e]] = 17 ^ (3 - T.length) := by
                show pot (T ++ [e]) + 0 = _
                rw [pot_snoc]
                rfl
              omega
            · rw [htk] at hj
              rcases List.mem_append.mp hj with hj | hj
              · exact List.mem_append_left _ (hdone j hj hnj)
              · rw [List.mem_singleton.mp hj]
                exact List.mem_append_right _ (List.mem_singleton.mpr rfl)
        · rintro σ H2 ⟨x7, ext, wv2, rfl, sm2, e2, eF2, tF2, eW2, tW2, st2, el2, hex, hps, hdone⟩
          rw [List.length_map] at hps hdone
          rw [List.take_length] at hdone
          have h2 : Ix.length * 17 ^ (3 - T.length) ≤ 16 * 17 ^ (3 - T.length) := Nat.mul_le_mul_right _ hI16
          have h3 := pot_step hT3
          have h4 : psum (T :: W.drop (a + 1)) = pot T + psum (W.drop (a + 1)) := rfl
          have h5 : 1 ≤ 17 ^ (3 - T.length) := Nat.pow_pos (by decide)
          refine ⟨_, rfl, _, _, rfl, rfl, ⟨a + 1, _, _, x7, W ++ ext, _, wv2, rfl, sm2, eF2, ?_, eW2, tW2, fun U hU => ?_, List.mem_append_left _ I.nil, ?_, ?_, fun n hn hna i bi si ni => ?_⟩, ?_⟩
          · rw [List.take_append_of_le_length (by omega)]
            exact tF2
          · rcases List.mem_append.mp hU with hU | hU
            · exact I.all U hU
            · exact hex U hU
          · rw [List.length_append]
            omega
          · rw [List.drop_append_of_le_length (by omega), psum_app]
            omega
          · have hnW : n < W.length := by omega
            have en : (W ++ ext)[n] = W[n] := List.getElem_append_left hnW
            rw [en] at si ni ⊢
            by_cases hna' : n < a
            · exact List.mem_append_left _ (hdn n hnW hna' i bi si ni)
            · have e : n = a := by omega
              subst e
              have eT : W[n] = T := by
                have := congrArg List.head? hdrop
                rw [List.head?_drop, List.getElem?_eq_getElem hnW] at this
                exact Option.some.inj this
              rw [eT] at si ni ⊢
              exact List.mem_append_right _ (hdone i ((hIx i).mpr ⟨bi, si⟩) ni)
          · show (90000 - ((a : Int) + 1)).toNat < (90000 - (a : Int)).toNat
            omega
      · rw [decide_eq_false (show ¬ ((a : Nat) : Int) < ((W.length : Nat) : Int) by omega)]
        have ea : a = W.length := by
          have := I.le
          omega
        subst ea
        rw [List.take_length] at tF
        exact iteF ⟨_, rfl, q H' F fv W sm nF eF tF hlen fun T => ⟨I.all T, I.full T.length T rfl⟩⟩
    · rintro σ H Q Q' hq ⟨v, e, v2, e2, pp, ys, r1, r2, i, j, r3, r4, k, r5, r6⟩
      exact ⟨v, e, v2, e2, pp, ys, r1, r2, i, j, r3, r4, k, r5, hq _ _ r6⟩
end
end Sm
end
section
set_option Elab.async false
set_option linter.all false
set_option maxRecDepth 100000
set_option maxHeartbeats 4000000
/-! Tuples whose one object is known: made by a display or by +, so that a method of tuple can be asked of them. -/
namespace SmR
open PySem PySem.Spec PyProof.Rows L2
def KnownT (o : Obj) : Prop := o.cls = .type "tuple" ∧ o.dict = none
section
variable {X : Cx}
def tTupF (t : TA) : TE := fun σ H Q => t σ H fun xs H1 => xs.length ≤ sizeLine ∧ ∀ p o, H1 p = none → KnownT o → Q (.ref p) (upd H1 p (.frz o (.tup xs)))
theorem pe_tupF {es : List Expr} {x1 : Nat} {pos : Pos} {t : TA} (h : PA X es t) : PE X (.Tuple es x1 pos) (tTupF t) := by
  constructor
  intro pins s σ H Q I hq
  refine wpAny_Tuple_spliced (thn (h.run pos pins s σ H _ I hq) ?_)
  rintro us s1 ⟨xs, H1, I1, r, z, q⟩
  refine ⟨by rw [← r.length]; exact z, ?_⟩
  have hf : H1 s1.heap.objs.size = none := I1.hok.fresh (Nat.le_refl _)
  have hg := Heap.get?_push_size s1.heap (o := { cls := .type "tuple", data := .seq us.toArray }) rfl
  refine ⟨.ref s1.heap.objs.size, upd H1 s1.heap.objs.size (.frz { cls := .type "tuple", data := .seq us.toArray } (.tup xs)), I1.laid (t' := s1.toks) (fun b u e => Heap.get?_push_of_some _ e) (Nat.le_refl _) ?_, rfl, q _ _ hf ⟨rfl, rfl⟩⟩
  exact ⟨hg, z, us, r, ⟨_, hg, rfl, _, rfl⟩⟩
def rCatF (K : PySem.W.Frag) : R2 := fun x y H Q => ∃ a b xs ys, x = .ref a ∧ y = .ref b ∧ SqT K H a xs ∧ SqT K H b ys ∧ ys ≠ [] ∧ xs.length + ys.length ≤ sizeLine ∧
  (xs = [] → Q (.ref b) H) ∧ (xs ≠ [] → ∀ p o, H p = none → KnownT o → Q (.ref p) (upd H p (.frz o (.tup (xs ++ ys)))))
theorem op_catF : OpR X (binaryOp .Add) (rCatF X.K) := by
  intro pins s σ H x y v u Q I rx ry h
  obtain ⟨a, b, xs, ys, rfl, rfl, ha, hb, hy, hz, q0, q2⟩ := h
  cases rx
  cases ry
  obtain ⟨its, r1, p1, _⟩ := I.tuple ha
  obtain ⟨its2, r2, p2, _⟩ := I.tuple hb
  by_cases hx : xs = []
  · subst hx
    cases r1
    exact cat_tup0 p1 p2 ⟨.ref b, H, I, rfl, q0 rfl⟩
  · refine HT.cat_tup p1 p2 (fun z => hx (r1.nil_iff.mp z)) (fun z => absurd (r2.nil_iff.mp z) hy) (fun z => ?_) (by rw [← r1.length, ← r2.length]; exact hz)
    have hg := Heap.get?_push_size s.heap (o := { cls := .type "tuple", data := .seq (its ++ its2).toArray }) rfl
    refine ⟨.ref s.heap.objs.size, _, I.laid (t' := s.toks) (o := .frz { cls := .type "tuple", data := .seq (its ++ its2).toArray } (.tup (xs ++ ys))) (fun b ob q => Heap.get?_push_of_some _ q) (Nat.le_refl _) ?_, rfl, q2 hx _ _ (I.hok.fresh (Nat.le_refl _)) ⟨rfl, rfl⟩⟩
    exact ⟨hg, by rw [List.length_append]; exact hz, _, r1.append r2, ⟨_, hg, rfl, _, rfl⟩⟩
variable {o e : Expr} {es : List Expr} {to : TE} {t : TA} {name : Str} {apos cpos : Pos} {id : String} {r : V → List V → Hp → VK → Prop}
def tBMT (r : V → List V → Hp → VK → Prop) (to : TE) (t : TA) : TE := fun σ H Q => to σ H fun x H1 => (∃ a ob xs, x = .ref a ∧ H1 a = some (.frz ob (.tup xs)) ∧ KnownT ob) ∧ t σ H1 fun xs H2 => r x xs H2 Q
theorem pe_bmT (slot : Slot "tuple" name id) (hty : typeOf (.builtin id) = pure (.type "method_descriptor")) (hm : MtR X id r) (ho : PE X o to) (ha : PA X (e :: es) t)
    (hbase : attributeBase o name X.env (eval o X.env) = eval o X.env := by rfl)
    (hfew : ((backTo cpos (starEach (e :: es) X.env)).all (fun x => !x.1) && (backToKw cpos (keywordEach [] X.env)).all (fun x => x.1.isSome)
      && decide ((e :: es).length + ([] : List Keyword).length + (if ([] : List Keyword).isEmpty then 0 else 1) < 30)) = true := by rfl)
    (hline : (apos.endLine == cpos.line) = true := by rfl) (hs : starEach (e :: es) X.env = (false, eval e X.env) :: starEach es X.env := by rfl) (hplain : (backTo cpos (starEach es X.env)).any (·.1) = false := by rfl) :
    PE X (.Call (.Attribute o name apos) (e :: es) [] cpos) (tBMT r to t) := by
  constructor
  intro pins s σ H Q I h
  refine wpAny_Call_method_late hbase hfew hline rfl (thn (ho.run pins s σ H _ I h) ?_)
  rintro v s1 ⟨x, H1, I1, r1, ⟨a, ob, xs, rfl, hk, hkt⟩, q1⟩
  cases r1
  obtain ⟨e1, _⟩ := I1.hok a _ hk
  refine ⟨"tuple", id, PySem.F.plainAttrs_tuple, slot, hty, ⟨ob, e1, hkt.1⟩, fun b z => ?_, ?_⟩
  · cases z
    exact ⟨ob, e1, hkt.2⟩
  have hA := ha.run cpos pins s1 σ H1 _ I1 q1
  rw [hs] at hA ⊢
  refine Calls.callWith_builtin (by show (false || (backTo cpos (starEach es X.env)).any (·.1)) = false; rw [hplain] <;> rfl) (Calls.evalArgs_plain ?_)
  refine thn hA ?_
  rintro us s2 ⟨vs, H2, I2, r2, q2⟩
  exact hm pins s2 σ H2 (.ref a) vs (.ref a) us Q I2 rfl r2 q2
end
end SmR
end
section
set_option Elab.async false
set_option linter.all false
set_option maxRecDepth 100000
set_option maxHeartbeats 4000000
namespace Sm
open PySem PySem.Spec PyProof.Rows L2 SmR
/-! ### loops in the heap -/
def LpAt (H : Hp) (p : Addr) (L : List Nat) : Prop := ∃ o, H p = some (.frz o (.tup (L.map nv))) ∧ KnownT o
theorem LpAt.same {H H' : Hp} {p : Addr} {L : List Nat} (e : Same H H') (h : LpAt H p L) : LpAt H' p L := let ⟨o, a, b⟩ := h; ⟨o, e _ _ a, b⟩
theorem LpAt.tr {K : PySem.W.Frag} {H : Hp} {p : Addr} {L : List Nat} (h : LpAt H p L) : TrAt K H p L := let ⟨o, a, _⟩ := h; .inl (.inr ⟨o, a⟩)
theorem LpAt.wr {H : Hp} {p F : Addr} {L : List Nat} {ys zs : List V} (h : LpAt H p L) (e : H F = some (.lst ys)) : LpAt (upd H F (.lst zs)) p L := by
  obtain ⟨o, a, b⟩ := h
  exact ⟨o, by rw [upd_ne (ne_of a e (by intro z; cases z))]; exact a, b⟩
def LpsAt (H : Hp) (vs : List V) (LS : List (List Nat)) : Prop := vs.length = LS.length ∧ ∀ (i : Nat) (L : List Nat), LS[i]? = some L → ∃ p, vs[i]? = some (.ref p) ∧ LpAt H p L
theorem LpsAt.same {H H' : Hp} {vs : List V} {LS : List (List Nat)} (e : Same H H') (h : LpsAt H vs LS) : LpsAt H' vs LS := ⟨h.1, fun i L q => let ⟨p, a, b⟩ := h.2 i L q; ⟨p, a, b.same e⟩⟩
theorem LpsAt.wr {H : Hp} {F : Addr} {vs : List V} {LS : List (List Nat)} {ys zs : List V} (h : LpsAt H vs LS) (e : H F = some (.lst ys)) : LpsAt (upd H F (.lst zs)) vs LS :=
  ⟨h.1, fun i L q => let ⟨p, a, b⟩ := h.2 i L q; ⟨p, a, b.wr e⟩⟩
theorem LpsAt.snoc {H : Hp} {vs : List V} {W : List (List Nat)} (b : LpsAt H vs W) {T : List Nat} {t : Addr} (e3 : LpAt H t T) : LpsAt H (vs ++ [.ref t]) (W ++ [T]) := by
  refine ⟨by rw [List.length_append, List.length_append, b.1, List.length_singleton, List.length_singleton], fun i U h => ?_⟩
  by_cases hi : i < W.length
  · rw [List.getElem?_append_left hi] at h
    rw [List.getElem?_append_left (by rw [b.1]; exact hi)]
    exact b.2 i U h
  · have hl := (List.getElem?_eq_some_iff.mp h).1
    rw [List.length_append, List.length_singleton] at hl
    have e : i = W.length := by omega
    subst e
    rw [List.getElem?_append_right (Nat.le_refl _), Nat.sub_self] at h
    cases h
    exact ⟨t, by rw [← b.1, List.getElem?_append_right (Nat.le_refl _), Nat.sub_self]; rfl, e3⟩
/-- trail + (index,), the object known -/
theorem rd_snocF {K : PySem.W.Frag} {σ : L2.St} {H : Hp} {Q : VK} {n m e : Nat} {t : Addr} {T : List Nat} (hn : σ[n]? = some (some (.ref t))) (hm : σ[m]? = some (some (nv e))) (S : TrAt K H t T) (hl : T.length ≤ 1000)
    (q : ∀ H' t3, Same H H' → LpAt H' t3 (T ++ [e]) → Q (.ref t3) H') : tOp (rCatF K) (tVar n) (tTupF (tCons (tVar m) tNil)) σ H Q := by
  refine ⟨_, hn, _, hm, (by show 1 ≤ sizeLine; decide), fun t1 o1 n1 ko1 => ?_⟩
  have s1 : Same H (upd H t1 (.frz o1 (.tup [nv e]))) := same_upd n1
  refine ⟨t, t1, T.map nv, [nv e], rfl, rfl, same_seqT s1 S, .inl (.inr ⟨o1, upd_same⟩), (by simp), ?_, fun h => ?_, fun _ p o np ko => ?_⟩
  · rw [List.length_map]
    show T.length + 1 ≤ sizeLine
    rw [sizeLine_eq]
    omega
  · have : T = [] := List.map_eq_nil_iff.mp h
    subst this
    exact q _ t1 s1 ⟨o1, upd_same, ko1⟩
  · refine q _ p (s1.trans (same_upd np)) ⟨o, ?_, ko⟩
    rw [upd_same, List.map_append]
    rfl
section
variable {P : Program} {w : World} {K : PySem.W.Frag} {mg : Str → Option Value} {base : Heap}
/-! ### loops_at -/
def spLoops (K : PySem.W.Frag) : Sp := fun vs H Q _ => ∃ (p : Addr) (k c : Int) (os : List Off), vs = [.ref p, .int c] ∧ BoardAt K H p k os ∧ OsOk k os ∧ 0 ≤ c ∧ c < k ∧
  ∀ (H' : Hp) (D : Addr) (us : List V) (LS : List (List Nat)), Same H H' → H D = none → H' D = some (.lst us) → LpsAt H' us LS → (∀ L, L ∈ LS ↔ Loop os c L) → Q (.ref D) H'
/-- the loops over the first trails -/
def LoopOf (os : List Off) (c : Int) (TS : List (List Nat)) (L : List Nat) : Prop := ∃ T ∈ TS, ∃ i, Best os i ∧ src os i = endK os c T ∧ dst os i = c ∧ L = T ++ [i]
theorem ok_LoopsAt (D : Dfn K mg "loops_at" sLoopsAt ["board", "kind"]) (GTrailsFrom : Ok P w K mg base 5 "trails_from" ["board", "kind"] (spTrails K)) (GBestSteps : Ok P w K mg base 4 "best_steps" ["board", "kind"] (spSteps K))
    (GEndOf : Ok P w K mg base 1 "end_of" ["board", "kind", "trail"] (spEnd K)) : Ok P w K mg base 6 "loops_at" ["board", "kind"] (spLoops K) := by
  refine ok_by D scLoopsAt (fun vs H Q E h => ?_) (fun f cdv A outer s H vs Q E hr h => ?_)
  · obtain ⟨p, k, c, os, rfl, _⟩ := h
    rfl
  · obtain ⟨p, k, c, os, rfl, B, ok, hc0, hck, q⟩ := h
    refine ⟨_, (pss_cons (ps_set (i := 2) scLoopsAt.nd rfl (.inl rfl) (pe_lst pa_nil))
    (pss_cons (ps_for PassesOwn.never rfl (pi_list (pe_ok GTrailsFrom (hr.mono (by decide)) (by rfl) (pa_cons (pv 0) (pa_cons (pv 1) pa_nil)))) (pg_name (i := 3) scLoopsAt.nd rfl (.inl rfl))
      (pss_one (ps_for PassesOwn.never rfl (pi_list (pe_ok GBestSteps (hr.mono (by decide)) (by rfl) (pa_cons (pv 0) (pa_cons (pe_ok GEndOf (hr.mono (by decide)) (by rfl) (pa_cons (pv 0) (pa_cons (pv 1) (pa_cons (pv 3) pa_nil)))) pa_nil)))) (pg_name (i := 4) scLoopsAt.nd rfl (.inl rfl))
      (pss_one (ps_if (pt_cmpR op_eq (pe_ix ix_tup (pe_ix ix_tup (pe_ix ix_tup (pv 0) pe_int (fun _ _ => rfl)) (pv 4) (fun _ _ => rfl)) pe_int (fun _ _ => rfl)) (pv 1) (nomark _)) (pss_one (ps_expr (pe_bm PySem.F.plainAttrs_list PySem.F.slot_list_append PySem.F.type_list_append mt_append (pv 2) (pa_cons (pe_op op_catF (pv 3) (pe_tupF (pa_cons (pv 4) pa_nil))) pa_nil)))) pss_nil)))))
    (pss_one (ps_ret (pv 2))))), ?_⟩
    refine ⟨Nat.zero_le _, fun F nF => ?_⟩
    have z0 : Same H (upd H F (.lst [])) := same_upd nF
    refine ⟨_, rfl, _, rfl, p, k, c, os, rfl, B.same z0, ok, hc0, hck, fun H1 D1 us TS s1 n1 e1 tT hTS hT => ?_⟩
    have hDF : D1 ≠ F := fun z => by
      rw [z, upd_same] at n1
      cases n1
    have us_len : us.length = TS.length := tT.1
    refine ⟨D1, rfl, ⟨_, SqL.of e1⟩, for_list (K := K) (a := D1) (xs := us)
      (fun n σ H2 => ∃ x3 x4 fv LS, σ = [some (.ref p), some (.int c), some (.ref F), x3, x4] ∧ Same H H2 ∧ H2 D1 = some (.lst us) ∧ TrsAt K H2 us TS ∧ H2 F = some (.lst fv) ∧ LpsAt H2 fv LS ∧ LS.length ≤ n * 16 ∧ ∀ L, L ∈ LS ↔ LoopOf os c (TS.take n) L)
      ⟨none, none, [], [], rfl, z0.trans s1, e1, tT, s1 _ _ upd_same, ⟨rfl, fun i L h => by simp at h⟩, Nat.zero_le _, fun L => ⟨(fun h => by cases h), (fun ⟨T, h, _⟩ => by simp at h)⟩⟩ (fun n σ H2 _ ⟨_, _, _, _, _, _, e, _⟩ => SqL.of e) ?_ ?_⟩
    · rintro n x σ H2 hx ⟨x3, x4, fv, LS, rfl, sm, e2, tT2, eF, lF, hLn, hL⟩
      obtain ⟨hn, ex⟩ := List.getElem?_eq_some_iff.mp hx
      have hnT : n < TS.length := by omega
      obtain ⟨t, et, st⟩ := tT2.2 n TS[n] (List.getElem?_eq_getElem hnT)
      have ext : x = .ref t := Option.some.inj (hx.symm.trans et)
      subst ext
      have tr := (hT _).mp (List.getElem_mem hnT)
      have htake : TS.take (n + 1) = TS.take n ++ [TS[n]] := List.take_succ_eq_append_getElem hnT
      generalize TS[n] = T at *
      have hT3 := trail_len ok hc0 hck tr
      have hTi := chain_idx T c tr.1
      refine ⟨_, rfl, _, rfl, _, rfl, _, rfl, p, t, k, c, os, T, rfl, B.same sm, st, hTi, by omega, fun H3 s3 => ?_⟩
      refine ⟨p, k, endK os c T, os, rfl, (B.same sm).same s3, ok, fun H4 D2 Ix s4 n4 e4 hI16 hIx => ?_⟩
      have hDF2 : D2 ≠ F := fun z => by
        rw [z, s3 _ _ eF] at n4
        cases n4
      have s34 := s3.trans s4
      refine ⟨D2, rfl, ⟨_, SqL.of e4⟩, for_list (K := K) (a := D2) (xs := Ix.map nv)
        (fun m σ H5 => ∃ x4 fv LS, σ = [some (.ref p), some (.int c), some (.ref F), some (.ref t), x4] ∧ Same H H5 ∧ H5 D1 = some (.lst us) ∧ TrsAt K H5 us TS ∧ H5 D2 = some (.lst (Ix.map nv)) ∧ TrAt K H5 t T ∧ H5 F = some (.lst fv) ∧ LpsAt H5 fv LS ∧ LS.length ≤ n * 16 + m ∧
          ∀ L, L ∈ LS ↔ LoopOf os c (TS.take n) L ∨ ∃ i ∈ Ix.take m, dst os i = c ∧ L = T ++ [i])
        ⟨x4, fv, LS, rfl, sm.trans s34, s34 _ _ e2, tT2.same s34, e4, same_seqT s34 st, s34 _ _ eF, lF.same s34, by omega, fun L => ⟨(fun h => .inl ((hL L).mp h)), (fun h => h.elim (fun h => (hL L).mpr h) fun ⟨i, h, _⟩ => by simp at h)⟩⟩ (fun m σ H5 _ ⟨_, _, _, _, _, _, _, e, _⟩ => SqL.of e) ?_ ?_⟩
      · rintro m x σ H5 hx2 ⟨x4, fv, LS, rfl, sm5, e5, tT5, eD5, st5, eF5, lF5, hLn5, hL5⟩
        obtain ⟨hi, ex⟩ := List.getElem?_eq_some_iff.mp hx2
        rw [List.length_map] at hi
        rw [List.getElem_map] at ex
        subst ex
        obtain ⟨hbest, hsrc⟩ := (hIx _).mp (List.getElem_mem hi)
        have htk : Ix.take (m + 1) = Ix.take m ++ [Ix[m]] := List.take_succ_eq_append_getElem hi
        generalize Ix[m] = e at *
        have he := hbest.1.1
        have B5 := B.same sm5
        refine rd_off (j := 2) rfl B5 he rfl (rd_var rfl) ⟨_, rfl, rfl, _, rfl, ?_⟩
        by_cases hd : dst os e = c
        · have hb : (off os e).b = c := hd
          rw [decide_eq_true (congrArg V.int hb)]
          refine iteT ⟨_, rfl, .inl ⟨rfl, _, SqL.of eF5⟩, rd_snocF rfl rfl st5 (by omega) fun H6 t3 s6 lp6 => ?_⟩
          have eF6 := s6 _ _ eF5
          refine ⟨F, _, _, rfl, rfl, eF6, ?_, ?_⟩
          · rw [lF5.1]
            exact big_line (by omega)
          · refine ⟨_, _, LS ++ [T ++ [e]], rfl, same_put (sm5.trans s6) nF, ?_, ?_, ?_, seqT_wr (same_seqT s6 st5) eF6, upd_same, ((lF5.same s6).wr eF6).snoc (lp6.wr eF6), ?_, fun L => ?_⟩
            · rw [upd_ne hDF]
              exact s6 _ _ e5
            · exact (tT5.same s6).keep (Kp.w (W := F) (F := F) eF6)
            · rw [upd_ne hDF2]
              exact s6 _ _ eD5
            · rw [List.length_append, List.length_singleton]
              omega
            · rw [List.mem_append, hL5, List.mem_singleton, htk]
              constructor
              · rintro ((h | ⟨i, h, a, b⟩) | h)
                · exact .inl h
                · exact .inr ⟨i, List.mem_append_left _ h, a, b⟩
                · exact .inr ⟨e, List.mem_append_right _ (List.mem_singleton.mpr rfl), hd, h⟩
              · rintro (h | ⟨i, h, a, b⟩)
                · exact .inl (.inl h)
                · rcases List.mem_append.mp h with h | h
                  · exact .inl (.inr ⟨i, h, a, b⟩)
                  · rw [List.mem_singleton.mp h] at b
                    exact .inr b
        · have hb : ¬ V.int (off os e).b = V.int c := fun z => hd (V.int.inj z)
          rw [decide_eq_false hb]
          refine iteF ⟨_, fv, LS, rfl, sm5, e5, tT5, eD5, st5, eF5, lF5, by omega, fun L => ?_⟩
          rw [hL5, htk]
          constructor
          · rintro (h | ⟨i, h, a, b⟩)
            · exact .inl h
            · exact .inr ⟨i, List.mem_append_left _ h, a, b⟩
          · rintro (h | ⟨i, h, a, b⟩)
            · exact .inl h
            · rcases List.mem_append.mp h with h | h
              · exact .inr ⟨i, h, a, b⟩
              · rw [List.mem_singleton.mp h] at a
                exact absurd a hd
      · rintro σ H5 ⟨x4, fv, LS, rfl, sm5, e5, tT5, eD5, st5, eF5, lF5, hLn5, hL5⟩
        rw [List.length_map] at hLn5 hL5
        rw [List.take_length] at hL5
        refine ⟨_, _, fv, LS, rfl, sm5, e5, tT5, eF5, lF5, by omega, fun L => ?_⟩
        rw [hL5, htake]
        constructor
        · rintro (⟨U, hU, r⟩ | ⟨i, h, a, b⟩)
          · exact ⟨U, List.mem_append_left _ hU, r⟩
          · obtain ⟨x, y⟩ := (hIx i).mp h
            exact ⟨T, List.mem_append_right _ (List.mem_singleton.mpr rfl), i, x, y, a, b⟩
        · rintro ⟨U, hU, i, x, y, a, b⟩
          rcases List.mem_append.mp hU with hU | hU
          · exact .inl ⟨U, hU, i, x, y, a, b⟩
          · rw [List.mem_singleton.mp hU] at y b
            exact .inr ⟨i, (hIx i).mpr ⟨x, y⟩, a, b⟩
    · rintro σ H2 ⟨x3, x4, fv, LS, rfl, sm, e2, tT2, eF, lF, hLn, hL⟩
      rw [us_len, List.take_length] at hL
      refine ⟨_, rfl, q H2 F fv LS sm nF eF lF fun L => ?_⟩
      rw [hL]
      constructor
      · rintro ⟨T, hT', i, r⟩
        exact ⟨T, i, (hT T).mp hT', r⟩
      · rintro ⟨T, i, hT', r⟩
        exact ⟨T, (hT T).mpr hT', i, r⟩
/-! ### gains -/
def spGains (K : PySem.W.Frag) : Sp := fun vs H Q _ => ∃ (p t : Addr) (k : Int) (os : List Off) (T : List Nat), vs = [.ref p, .ref t] ∧ BoardAt K H p k os ∧ OsOk k os ∧ TrAt K H t T ∧ (∀ i ∈ T, i < os.length) ∧ T.length ≤ 6 ∧
  ∀ H', Same H H' → Q (.bl (decide (den os T < num os T))) H'
theorem low_lt {n d : Int} (h : 0 < d) : lowd n d < lown n d ↔ d < n := by
  have := frac_lt (n1 := n) (d1 := d) (n2 := 1) (d2 := 1) h (by decide)
  have e1 : lown 1 1 = 1 := by decide
  have e2 : lowd 1 1 = 1 := by decide
  rw [e1, e2] at this
  omega
theorem ok_Gains (D : Dfn K mg "gains" sGains ["board", "indexes"]) (GRatioOf : Ok P w K mg base 3 "ratio_of" ["board", "indexes"] (spRatio K)) : Ok P w K mg base 4 "gains" ["board", "indexes"] (spGains K) := by
  refine ok_by D scGains (fun vs H Q E h => ?_) (fun f cdv A outer s H vs Q E hr h => ?_)
  · obtain ⟨p, t, k, os, T, rfl, _⟩ := h
    rfl
  · obtain ⟨p, t, k, os, T, rfl, B, ok, St, hT, hl, q⟩ := h
    refine ⟨_, (pss_cons (ps_asg (pe_ok GRatioOf (hr.mono (by decide)) (by rfl) (pa_cons (pv 0) (pa_cons (pv 1) pa_nil))) (pg_tup rfl (pgs_cons (pg_name (i := 2) scGains.nd rfl (.inl rfl)) (pgs_cons (pg_name (i := 3) scGains.nd rfl (.inl rfl)) pgs_nil))))
    (pss_one (ps_ret (pe_cmpR op_gt (pv 2) (pv 3) (nomark _))))), ?_⟩
    refine ⟨_, rfl, _, rfl, p, t, k, os, T, rfl, B, ok, St, hT, hl, fun H1 r s1 n1 e1 => ?_⟩
    refine ⟨r, _, rfl, SqT.of e1, rfl, _, _, rfl, _, _, rfl, rfl, _, rfl, _, rfl, _, _, rfl, rfl, ?_⟩
    have e : decide (lowd (num os T) (den os T) < lown (num os T) (den os T)) = decide (den os T < num os T) := by
      rw [decide_eq_decide]
      exact low_lt (den_pos ok T)
    show Q (.bl (decide (lowd (num os T) (den os T) < lown (num os T) (den os T)))) H1
    rw [e]
    exact q H1 s1
end
end Sm
end
section
set_option Elab.async false
set_option linter.all false
set_option maxRecDepth 100000
set_option maxHeartbeats 4000000
namespace Sm
open PySem PySem.Spec PyProof.Rows L2 SmR
/-! ### slices and sums of tuples, whatever comes -/
theorem rd_slice {K : PySem.W.Frag} {H : Hp} {Q : VK} {a : Addr} {xs : List V} {lo hi : Option Int} (S : SqT K H a xs) (hl : xs.length ≤ 1000) (q : ∀ H' t ys, Same H H' → SqT K H' t ys → ys.length ≤ 1000 → Q (.ref t) H') : rSlA K (.ref a) lo hi H Q := by
  refine ⟨a, xs, rfl, S, fun _ => q H a xs (Same.refl H) S hl, fun _ p np => q _ p _ (same_upd np) (.inl (.inl upd_same)) (Nat.le_trans (cutV_length xs lo hi) hl)⟩
theorem rd_catAny {K : PySem.W.Frag} {H : Hp} {Q : VK} {a b : Addr} {xs ys : List V} (S : SqT K H a xs) (S2 : SqT K H b ys) (hl : xs.length ≤ 1000) (hl2 : ys.length ≤ 1000) (q : ∀ H' t, Same H H' → Q (.ref t) H') : rCatA K (.ref a) (.ref b) H Q := by
  refine ⟨a, b, xs, ys, rfl, rfl, S, S2, ?_, fun _ => q H b (Same.refl H), fun _ _ => q H a (Same.refl H), fun _ _ p np => q _ p (same_upd np)⟩
  rw [sizeLine_eq]
  omega
theorem map_nv (T : List Nat) : T.map nv = (T.map fun n : Nat => (n : Int)).map V.int := by
  rw [List.map_map]
  rfl
section
variable {k : Int} {os : List Off}
theorem loop_idx (ok : OsOk k os) {c : Int} (h0 : 0 ≤ c) (h1 : c < k) {L : List Nat} (l : Loop os c L) : (∀ i ∈ L, i < os.length) ∧ L.length ≤ 4 ∧ L ≠ [] := by
  obtain ⟨T, i, t, b, _, _, rfl⟩ := l
  have := trail_len ok h0 h1 t
  refine ⟨fun j hj => ?_, by rw [List.length_append, List.length_singleton]; omega, by simp⟩
  rcases List.mem_append.mp hj with hj | hj
  · exact chain_idx T c t.1 j hj
  · rw [List.mem_singleton.mp hj]
    exact b.1.1
end
section
variable {P : Program} {w : World} {K : PySem.W.Frag} {mg : Str → Option Value} {base : Heap}
/-! ### gaining_loop -/
def spGain (K : PySem.W.Frag) : Sp := fun vs H Q _ => ∃ (p l : Addr) (k : Int) (os : List Off) (Ks : List Int), vs = [.ref p, .ref l] ∧ BoardAt K H p k os ∧ OsOk k os ∧ SqL K H l (Ks.map V.int) ∧ (∀ c ∈ Ks, 0 ≤ c ∧ c < k) ∧
  (∀ H', Same H H' → (∀ c ∈ Ks, NoGain os c) → Q .non H') ∧ (∀ H' t, Same H H' → (∃ c ∈ Ks, ¬ NoGain os c) → Q (.ref t) H')
theorem ok_GainingLoop (D : Dfn K mg "gaining_loop" sGainingLoop ["board", "kinds"]) (GLoopsAt : Ok P w K mg base 6 "loops_at" ["board", "kind"] (spLoops K)) (GGains : Ok P w K mg base 4 "gains" ["board", "indexes"] (spGains K))
    (mmin : mg "min" = none) : Ok P w K mg base 7 "gaining_loop" ["board", "kinds"] (spGain K) := by
  refine ok_by D scGainingLoop (fun vs H Q E h => ?_) (fun f cdv A outer s H vs Q E hr h => ?_)
  · obtain ⟨p, l, k, os, Ks, rfl, _⟩ := h
    rfl
  · obtain ⟨p, l, k, os, Ks, rfl, B, ok, SK, hK, q0, q1⟩ := h
    refine ⟨_, (pss_cons (ps_for PassesOwn.never rfl (pi_list (pv 1)) (pg_name (i := 2) scGainingLoop.nd rfl (.inl rfl))
      (pss_one (ps_for PassesOwn.never rfl (pi_list (pe_ok GLoopsAt (hr.mono (by decide)) (by rfl) (pa_cons (pv 0) (pa_cons (pv 2) pa_nil)))) (pg_name (i := 3) scGainingLoop.nd rfl (.inl rfl))
      (pss_one (ps_if (pt_val (pe_ok GGains (hr.mono (by decide)) (by rfl) (pa_cons (pv 0) (pa_cons (pv 3) pa_nil)))) (pss_cons (ps_set (i := 4) scGainingLoop.nd rfl (.inl rfl) (pe_bmT PySem.F.slot_tuple_index PySem.F.type_tuple_index mt_tup_indexI (pv 3) (pa_cons (pe_callB (cr_minT rfl hr.units) (by rfl) mmin (by decide +kernel) (pa_cons (pv 3) pa_nil)) pa_nil)))
    (pss_one (ps_ret (pe_op op_catA (pe_slice sl_tupA (pv 3) (po_some (pv 4)) po_none) (pe_slice sl_tupA (pv 3) po_none (po_some (pv 4))))))) pss_nil)))))
    (pss_one (ps_ret pe_non))), ?_⟩
    refine ⟨_, rfl, l, rfl, ⟨_, SK⟩, for_list (K := K) (a := l) (xs := Ks.map V.int)
      (fun n σ H' => ∃ x2 x3, σ = [some (.ref p), some (.ref l), x2, x3, none] ∧ Same H H' ∧ ∀ c ∈ Ks.take n, NoGain os c)
      ⟨none, none, rfl, Same.refl H, fun c h => by simp at h⟩ (fun n σ H' _ ⟨_, _, _, e, _⟩ => e.seq SK) ?_ ?_⟩
    · rintro n x σ H' hx ⟨x2, x3, rfl, sm, hng⟩
      obtain ⟨hn, ex⟩ := List.getElem?_eq_some_iff.mp hx
      rw [List.length_map] at hn
      rw [List.getElem_map] at ex
      subst ex
      have hmem := List.getElem_mem hn
      have htake : Ks.take (n + 1) = Ks.take n ++ [Ks[n]] := List.take_succ_eq_append_getElem hn
      generalize Ks[n] = c at *
      obtain ⟨hc0, hck⟩ := hK c hmem
      refine ⟨_, rfl, _, rfl, p, k, c, os, rfl, B.same sm, ok, hc0, hck, fun H1 D1 us LS s1 n1 e1 tL hL => ?_⟩
      refine ⟨D1, rfl, ⟨_, SqL.of e1⟩, for_list (K := K) (a := D1) (xs := us)
        (fun m σ H2 => ∃ x3, σ = [some (.ref p), some (.ref l), some (.int c), x3, none] ∧ Same H1 H2 ∧ ∀ L ∈ LS.take m, num os L ≤ den os L)
        ⟨x3, rfl, Same.refl H1, fun L h => by simp at h⟩ (fun m σ H2 _ ⟨_, _, e, _⟩ => SqL.of (e _ _ e1)) ?_ ?_⟩
      · rintro m x σ H2 hx2 ⟨x3, rfl, s2, hno⟩
        obtain ⟨hm, ex⟩ := List.getElem?_eq_some_iff.mp hx2
        have hmL : m < LS.length := by rw [← tL.1]; exact hm
        obtain ⟨t, et, lt⟩ := tL.2 m LS[m] (List.getElem?_eq_getElem hmL)
        have ext : x = .ref t := Option.some.inj (hx2.symm.trans et)
        subst ext
        have lp := (hL _).mp (List.getElem_mem hmL)
        have htk : LS.take (m + 1) = LS.take m ++ [LS[m]] := List.take_succ_eq_append_getElem hmL
        generalize LS[m] = L at *
        obtain ⟨hLi, hL4, hLn⟩ := loop_idx ok hc0 hck lp
        have s12 := sm.trans (s1.trans s2)
        have lt2 := lt.same s2
        refine ⟨_, rfl, _, rfl, p, t, k, os, L, rfl, B.same s12, ok, lt2.tr, hLi, by omega, fun H3 s3 => ⟨_, rfl, ?_⟩⟩
        by_cases hg : den os L < num os L
        · rw [decide_eq_true hg]
          have lt3 := lt2.same s3
          have S3 : SqT K H3 t (L.map nv) := lt3.tr
          obtain ⟨ob, eob, kob⟩ := id lt3
          have SI : SqT K H3 t ((L.map fun n : Nat => (n : Int)).map V.int) := by
            rw [← map_nv]
            exact S3
          have hlen : (L.map nv).length ≤ 1000 := by
            rw [List.length_map]
            omega
          have fin : ∀ H' t, Same H3 H' → Q (.ref t) H' := fun H' t s' => q1 H' t (s12.trans (s3.trans s')) ⟨c, hmem, fun z => by
            have := z L lp
            omega⟩
          refine iteT ⟨_, rfl, ⟨t, ob, _, rfl, eob, kob⟩, _, rfl, t, _, rfl, SI, ?_, fun m hm => ⟨t, _, m, rfl, rfl, SI, hm, fun j hj => ?_⟩⟩
          · intro z
            exact hLn (List.map_eq_nil_iff.mp z)
          · refine ⟨_, rfl, _, rfl, _, rfl, ?_⟩
            dsimp only [tNoPart]
            refine rd_slice S3 hlen fun H4 t4 ys4 s4 S4 hl4 => ?_
            refine ⟨_, rfl, ?_⟩
            dsimp only [tNoPart]
            refine ⟨_, rfl, _, rfl, ?_⟩
            refine rd_slice (same_seqT s4 S3) hlen fun H5 t5 ys5 s5 S5 hl5 => ?_
            exact rd_catAny (same_seqT s5 S4) S5 hl4 hl5 fun H6 t6 s6 => fin H6 t6 ((s4.trans s5).trans s6)
        · rw [decide_eq_false hg]
          refine iteF ⟨_, rfl, s2.trans s3, fun U hU => ?_⟩
          rw [htk] at hU
          rcases List.mem_append.mp hU with hU | hU
          · exact hno U hU
          · rw [List.mem_singleton.mp hU]
            omega
      · rintro σ H2 ⟨x3, rfl, s2, hno⟩
        rw [tL.1, List.take_length] at hno
        refine ⟨_, _, rfl, sm.trans (s1.trans s2), fun d hd => ?_⟩
        rw [htake] at hd
        rcases List.mem_append.mp hd with hd | hd
        · exact hng d hd
        · rw [List.mem_singleton.mp hd]
          exact fun L hl => hno L ((hL L).mpr hl)
    · rintro σ H' ⟨x2, x3, rfl, sm, hng⟩
      rw [List.length_map, List.take_length] at hng
      exact q0 H' sm hng
/-! ### price_of -/
def spPrice (K : PySem.W.Frag) : Sp := fun vs H Q _ => ∃ (p : Addr) (k c : Int) (os : List Off), vs = [.ref p, .int c] ∧ BoardAt K H p k os ∧ OsOk k os ∧ 0 ≤ c ∧ c < k ∧
  ∀ (H' : Hp) (r : Addr) (n d : Int), Same H H' → SqT K H' r [.int n, .int d] → Price os c n d → n ≤ 27000 → d ≤ 27000 → Q (.ref r) H'
theorem trail_bd {k : Int} {os : List Off} (ok : OsOk k os) {c : Int} (h0 : 0 ≤ c) (h1 : c < k) {T : List Nat} (t : Trail os c T) : (1 ≤ num os T ∧ num os T ≤ 27000) ∧ 1 ≤ den os T ∧ den os T ≤ 27000 := by
  have h3 := trail_len ok h0 h1 t
  have := num_den_bd ok T (chain_idx T c t.1)
  have e := pow30_le h3
  have e2 : (30 : Int) ^ 3 = 27000 := by decide
  have := t.1.walk.num_pos
  omega
theorem low_eq {n d : Int} (h : 0 < d) : n * lowd n d = lown n d * d := by
  obtain ⟨a, b⟩ := low_spec (n := n) h
  generalize lown n d = x at *
  generalize lowd n d = y at *
  generalize ((Int.gcd n d : Nat) : Int) = g at *
  subst a b
  grind
theorem ok_PriceOf (D : Dfn K mg "price_of" sPriceOf ["board", "kind"]) (GTrailsFrom : Ok P w K mg base 5 "trails_from" ["board", "kind"] (spTrails K)) (GRatioOf : Ok P w K mg base 3 "ratio_of" ["board", "indexes"] (spRatio K))
    (GIsGreater : Ok P w K mg base 1 "is_greater" ["one", "other"] (spGr K)) : Ok P w K mg base 6 "price_of" ["board", "kind"] (spPrice K) := by
  refine ok_by D scPriceOf (fun vs H Q E h => ?_) (fun f cdv A outer s H vs Q E hr h => ?_)
  · obtain ⟨p, k, c, os, rfl, _⟩ := h
    rfl
  · obtain ⟨p, k, c, os, rfl, B, ok, hc0, hck, q⟩ := h
    refine ⟨_, (pss_cons (ps_set (i := 2) scPriceOf.nd rfl (.inl rfl) (pe_tup (pa_cons pe_int (pa_cons pe_int pa_nil))))
    (pss_cons (ps_for PassesOwn.never rfl (pi_list (pe_ok GTrailsFrom (hr.mono (by decide)) (by rfl) (pa_cons (pv 0) (pa_cons (pv 1) pa_nil)))) (pg_name (i := 3) scPriceOf.nd rfl (.inl rfl))
      (pss_cons (ps_set (i := 4) scPriceOf.nd rfl (.inl rfl) (pe_ok GRatioOf (hr.mono (by decide)) (by rfl) (pa_cons (pv 0) (pa_cons (pv 3) pa_nil))))
    (pss_one (ps_if (pt_val (pe_ok GIsGreater (hr.mono (by decide)) (by rfl) (pa_cons (pv 4) (pa_cons (pv 2) pa_nil)))) (pss_one (ps_set (i := 2) scPriceOf.nd rfl (.inl rfl) (pv 4))) pss_nil))))
    (pss_one (ps_ret (pv 2))))), ?_⟩
    refine ⟨(by show 2 ≤ sizeLine; decide), fun r0 nr0 => ?_⟩
    have z0 : Same H (upd H r0 (.tup [.int 1, .int 1])) := same_upd nr0
    refine ⟨_, rfl, _, rfl, p, k, c, os, rfl, B.same z0, ok, hc0, hck, fun H1 D1 us TS s1 n1 e1 tT hTS hT => ?_⟩
    refine ⟨D1, rfl, ⟨_, SqL.of e1⟩, for_list (K := K) (a := D1) (xs := us)
      (fun m σ H2 => ∃ x3 x4 r n d, σ = [some (.ref p), some (.int c), some (.ref r), x3, x4] ∧ Same H1 H2 ∧ SqT K H2 r [.int n, .int d] ∧ (0 < n ∧ n ≤ 27000 ∧ 0 < d ∧ d ≤ 27000) ∧ (∀ U ∈ TS.take m, num os U * d ≤ n * den os U) ∧
        ∃ T, Trail os c T ∧ n * den os T = num os T * d)
      ⟨none, none, r0, 1, 1, rfl, Same.refl H1, SqT.of (s1 _ _ upd_same), ⟨by decide, by decide, by decide, by decide⟩, fun U h => by simp at h, [], Trail.nil c, rfl⟩ (fun m σ H2 _ ⟨_, _, _, _, _, _, e, _⟩ => SqL.of (e _ _ e1)) ?_ ?_⟩
    · rintro m x σ H2 hx ⟨x3, x4, r, n, d, rfl, s2, Sr, ⟨bn0, bn1, bd0, bd1⟩, hU, T0, t0, et0⟩
      obtain ⟨hm, ex⟩ := List.getElem?_eq_some_iff.mp hx
      have hmT : m < TS.length := by rw [← tT.1]; exact hm
      obtain ⟨t, et, st⟩ := tT.2 m TS[m] (List.getElem?_eq_getElem hmT)
      have ext : x = .ref t := Option.some.inj (hx.symm.trans et)
      subst ext
      have tr := (hT _).mp (List.getElem_mem hmT)
      have htk : TS.take (m + 1) = TS.take m ++ [TS[m]] := List.take_succ_eq_append_getElem hmT
      generalize TS[m] = T at *
      have h3 := trail_len ok hc0 hck tr
      have hTi := chain_idx T c tr.1
      have tb := trail_bd ok hc0 hck tr
      have s02 := (z0.trans s1).trans s2
      refine ⟨_, rfl, _, rfl, p, t, k, os, T, rfl, B.same s02, ok, same_seqT s2 st, hTi, by omega, fun H3 r3 s3 n3 e3 => ?_⟩
      have lb := low_bd (n := num os T) (d := den os T) (by omega) (by omega)
      have le := low_eq (n := num os T) (d := den os T) (by omega)
      have dp := den_pos ok
      refine ⟨_, rfl, _, rfl, r3, r, _, _, n, d, rfl, SqT.of e3, same_seqT s3 Sr, ⟨by omega, by omega⟩, ⟨by omega, by omega⟩, _, rfl, ?_⟩
      have lpos : 0 < lown (num os T) (den os T) := by
        have e1 := (low_spec (n := num os T) (d := den os T) (by omega)).1
        have g := gcd_pos (n := num os T) (d := den os T) (by omega)
        refine Int.pos_of_mul_pos_left (b := ((Int.gcd (num os T) (den os T) : Nat) : Int)) ?_ (by omega)
        omega
      by_cases hg : n * lowd (num os T) (den os T) < lown (num os T) (den os T) * d
      · rw [decide_eq_true hg]
        refine iteT ⟨_, rfl, some (.ref t), some (.ref r3), r3, lown (num os T) (den os T), lowd (num os T) (den os T), rfl, s2.trans s3, SqT.of e3, ⟨lpos, by omega, lb.2.2.1, by omega⟩, fun U hU' => ?_, T, tr, le.symm⟩
        rw [htk] at hU'
        rcases List.mem_append.mp hU' with hU' | hU'
        · exact le_trans3 (dp U) bd0 lb.2.2.1 (hU U hU') (Int.le_of_lt hg)
        · rw [List.mem_singleton.mp hU']
          exact Int.le_of_eq le
      · rw [decide_eq_false hg]
        refine iteF ⟨some (.ref t), some (.ref r3), r, n, d, rfl, s2.trans s3, same_seqT s3 Sr, ⟨bn0, bn1, bd0, bd1⟩, fun U hU' => ?_, T0, t0, et0⟩
        rw [htk] at hU'
        rcases List.mem_append.mp hU' with hU' | hU'
        · exact hU U hU'
        · rw [List.mem_singleton.mp hU']
          exact le_trans3 (dp T) lb.2.2.1 bd0 (Int.le_of_eq le) (Int.not_lt.mp hg)
    · rintro σ H2 ⟨x3, x4, r, n, d, rfl, s2, Sr, ⟨bn0, bn1, bd0, bd1⟩, hU, T0, t0, et0⟩
      rw [tT.1, List.take_length] at hU
      exact ⟨_, rfl, q H2 r n d ((z0.trans s1).trans s2) Sr ⟨bn0, bd0, fun U u => hU U ((hT U).mpr u), T0, t0, et0⟩ bn1 bd1⟩
end
end Sm
end
section
set_option Elab.async false
set_option linter.all false
set_option maxRecDepth 100000
set_option maxHeartbeats 4000000
namespace Sm
open PySem PySem.Spec PyProof.Rows L2 SmR
/-! ### whole numbers in the proportions of fractions -/
theorem lcm_step {W d : Int} (hW : 0 < W) (hd : 0 < d) : 0 < W / (Int.gcd W d : Nat) * d ∧ W ∣ W / (Int.gcd W d : Nat) * d ∧ d ∣ W / (Int.gcd W d : Nat) * d ∧ W / (Int.gcd W d : Nat) * d ≤ W * d ∧ 0 < W / (Int.gcd W d : Nat) ∧ W / (Int.gcd W d : Nat) ≤ W := by
  have g := gcd_pos (n := W) hd
  obtain ⟨a, ha⟩ := Int.gcd_dvd_left (a := W) (b := d)
  obtain ⟨b, hb⟩ := Int.gcd_dvd_right (a := W) (b := d)
  generalize ((Int.gcd W d : Nat) : Int) = u at *
  have ea : W / u = a := by
    rw [ha]
    exact Int.mul_ediv_cancel_left a (by omega)
  rw [ea]
  have pa : 0 < a := Int.pos_of_mul_pos_right (a := u) (by omega) (by omega)
  have aW : a ≤ W := by
    have := Int.mul_le_mul_of_nonneg_right (show (1 : Int) ≤ u by omega) (Int.le_of_lt pa)
    omega
  refine ⟨Int.mul_pos pa hd, ⟨b, ?_⟩, ⟨a, Int.mul_comm _ _⟩, Int.mul_le_mul_of_nonneg_right aW (Int.le_of_lt hd), pa, aW⟩
  rw [ha, hb]
  grind
def FrAt (K : PySem.W.Frag) (H : Hp) (us : List V) (fs : List (Int × Int)) : Prop := us.length = fs.length ∧ ∀ (i : Nat) (n d : Int), fs[i]? = some (n, d) → ∃ r, us[i]? = some (.ref r) ∧ SqT K H r [.int n, .int d]
theorem FrAt.same {K : PySem.W.Frag} {H H' : Hp} {us : List V} {fs : List (Int × Int)} (e : Same H H') (h : FrAt K H us fs) : FrAt K H' us fs :=
  ⟨h.1, fun i n d q => let ⟨r, a, b⟩ := h.2 i n d q; ⟨r, a, same_seqT e b⟩⟩
theorem pow27_le {n m : Nat} (h : n ≤ m) : (27000 : Int) ^ n ≤ 27000 ^ m := by
  have := Nat.pow_le_pow_right (show 0 < 27000 by decide) h
  have e1 : ((27000 ^ n : Nat) : Int) = 27000 ^ n := by simp
  have e2 : ((27000 ^ m : Nat) : Int) = 27000 ^ m := by simp
  omega
section
variable {P : Program} {w : World} {K : PySem.W.Frag} {mg : Str → Option Value} {base : Heap}
def spScaled (K : PySem.W.Frag) : Sp := fun vs H Q _ => ∃ (l : Addr) (us : List V) (fs : List (Int × Int)), vs = [.ref l] ∧ SqL K H l us ∧ FrAt K H us fs ∧ fs.length ≤ 4 ∧ 0 < fs.length ∧ (∀ f ∈ fs, 1 ≤ f.1 ∧ f.1 ≤ 27000 ∧ 1 ≤ f.2 ∧ f.2 ≤ 27000) ∧
  ∀ (H' : Hp) (q : Addr) (ps : List Int) (by_ W : Int), Same H H' → SqT K H' q (ps.map V.int) → 0 < by_ → 0 < W → ps.length = fs.length → (∀ (i : Nat) (n d p : Int), fs[i]? = some (n, d) → ps[i]? = some p → p * by_ * d = n * W) → Q (.ref q) H'
theorem ok_Scaled (D : Dfn K mg "scaled" sScaled ["fractions"]) (GDivisor : Ok P w K mg base 1 "divisor" ["one", "other"] spDiv) (mtuple : mg "tuple" = none) : Ok P w K mg base 2 "scaled" ["fractions"] (spScaled K) := by
  refine ok_by D scScaled (fun vs H Q E h => ?_) (fun f cdv A outer s H vs Q E hr h => ?_)
  · obtain ⟨l, us, fs, rfl, _⟩ := h
    rfl
  · obtain ⟨l, us, fs, rfl, Sl, FA, h4, h0, hf, q⟩ := h
    refine ⟨_, (pss_cons (ps_set (i := 1) scScaled.nd rfl (.inr rfl) pe_int)
    (pss_cons (ps_for PassesOwn.never rfl (pi_list (pv 0)) (pg_tup rfl (pgs_cons (pg_name (i := 2) scScaled.nd rfl (.inl rfl)) (pgs_cons (pg_name (i := 3) scScaled.nd rfl (.inl rfl)) pgs_nil)))
      (pss_one (ps_set (i := 1) scScaled.nd rfl (.inr rfl) (pe_op op_mul (pe_op op_fdivW (pv 1) (pe_ok GDivisor (hr.mono (by decide)) (by rfl) (pa_cons (pv 1) (pa_cons (pv 3) pa_nil)))) (pv 3)))))
    (pss_cons (ps_setLc (i := 4) (own := [("num", 2), ("den", 3)]) (g := gTup K 2 (gCons (gName 2) (gCons (gName 3) gNil))) (tt := tYes) rfl scScaled.nd rfl rfl (sw_true rfl rfl rfl (by decide +kernel)) (pi_list (pv 0)) (blkOk_by (N := nScaled) (sc := defScope sScaled) (by decide +kernel)) (fun _ _ _ _ _ => (pg_tup rfl (pgs_cons (pg_name (i := 2) scScaled.nd rfl (.inl rfl)) (pgs_cons (pg_name (i := 3) scScaled.nd rfl (.inl rfl)) pgs_nil)))) (fun _ _ _ _ _ => pts_nil) (fun _ _ _ _ _ => (pe_op op_mul (pv 2) (pe_op op_fdivW (pv 1) (pv 3)))))
    (pss_cons (ps_set (i := 5) scScaled.nd rfl (.inr rfl) pe_int)
    (pss_cons (ps_for PassesOwn.never rfl (pi_list (pv 4)) (pg_name (i := 6) scScaled.nd rfl (.inl rfl))
      (pss_one (ps_set (i := 5) scScaled.nd rfl (.inr rfl) (pe_ok GDivisor (hr.mono (by decide)) (by rfl) (pa_cons (pv 5) (pa_cons (pv 6) pa_nil))))))
    (pss_one (ps_ret (pe_callTy call_tuple_of (by rfl) mtuple (by decide +kernel) (pa_cons (pe_lc (own := [("number", 6)]) (g := gName 6) (tt := tYes) rfl scScaled.nd (pi_list (pv 4)) (blkOk_by (N := nScaled) (sc := defScope sScaled) (by decide +kernel)) (fun _ _ _ _ _ => (pg_name (i := 6) scScaled.nd rfl (.inl rfl))) (fun _ _ _ _ _ => pts_nil) (fun _ _ _ _ _ => (pe_op op_fdivW (pv 6) (pv 5)))) pa_nil))))))))), ?_⟩
    refine ⟨_, rfl, l, rfl, ⟨_, Sl⟩, for_list (K := K) (a := l) (xs := us)
      (fun i σ H' => ∃ (W : Int) (x2 x3 : Option V), σ = [some (.ref l), some (.int W), x2, x3, none, none, none] ∧ H' = H ∧ 1 ≤ W ∧ W ≤ 27000 ^ i ∧ ∀ f ∈ fs.take i, f.2 ∣ W)
      ⟨1, none, none, rfl, rfl, by decide, by decide, fun f h => by simp at h⟩ (fun i σ H' _ ⟨_, _, _, _, e, _⟩ => by rw [e]; exact Sl) ?_ ?_⟩
    · rintro i x σ H' hx ⟨W, x2, x3, rfl, rfl, hW1, hW2, hdv⟩
      obtain ⟨hi, ex⟩ := List.getElem?_eq_some_iff.mp hx
      have hif : i < fs.length := by rw [← FA.1]; exact hi
      obtain ⟨r, er, sr⟩ := FA.2 i fs[i].1 fs[i].2 (List.getElem?_eq_getElem hif)
      have ext : x = .ref r := Option.some.inj (hx.symm.trans er)
      subst ext
      have hm := hf _ (List.getElem_mem hif)
      have htk : fs.take (i + 1) = fs.take i ++ [fs[i]] := List.take_succ_eq_append_getElem hif
      generalize fs[i] = fi at *
      obtain ⟨n, d⟩ := fi
      dsimp only at hm
      obtain ⟨hn1, hn2, hd1, hd2⟩ := hm
      obtain ⟨l1, l2, l3, l4, l5, l6⟩ := lcm_step (W := W) (d := d) (by omega) (by omega)
      have b4 := pow27_le (n := i) (m := 4) (by omega)
      have b5 : (27000 : Int) ^ 4 = 531441000000000000 := by decide
      have gp := gcd_pos (n := W) (d := d) (by omega)
      have gl := gcd_le (n := W) (d := d) (by omega)
      refine ⟨r, [.int n, .int d], rfl, sr, rfl, _, _, rfl, _, _, rfl, rfl, ?_⟩
      refine ⟨_, rfl, _, rfl, _, rfl, W, d, rfl, by omega, by omega, _, _, rfl, rfl, wide_div (b := 64) gp (by omega) (by decide) (by decide), _, rfl, _, _, rfl, rfl, .inl ⟨by omega, by omega⟩, ?_⟩
      refine ⟨_, _, _, rfl, rfl, by omega, ?_, fun g hg => ?_⟩
      · have e : (27000 : Int) ^ (i + 1) = 27000 ^ i * 27000 := Int.pow_succ ..
        have := Int.mul_le_mul hW2 hd2 (by omega) (by omega)
        omega
      · rw [htk] at hg
        rcases List.mem_append.mp hg with hg | hg
        · exact Int.dvd_trans (hdv g hg) l2
        · rw [List.mem_singleton.mp hg]
          exact l3
    · rintro σ H' ⟨W, x2, x3, rfl, rfl, hW1, hW2, hdv⟩
      rw [FA.1] at hW2
      rw [FA.1, List.take_length] at hdv
      have b4 := pow27_le (n := fs.length) (m := 4) h4
      have b5 : (27000 : Int) ^ 4 = 531441000000000000 := by decide
      -- some
      refine ⟨_, rfl, l, rfl, ⟨_, Sl⟩, fun L nL => ?_⟩
      have zL := same_upd (o := .lst []) nL
      refine lc_list (K := K) (a := l) (xs := us) (fun i H2 => Same H' H2 ∧ ∃ ss : List Int, H2 L = some (.lst (ss.map V.int)) ∧ ss.length = i ∧ (∀ s ∈ ss, 1 ≤ s ∧ s ≤ 27000 * 27000 ^ 4) ∧ ∀ (j : Nat) (n d s : Int), fs[j]? = some (n, d) → ss[j]? = some s → s * d = n * W)
        ⟨zL, [], upd_same, rfl, (fun s h => by cases h), fun j n d s _ h => by simp at h⟩ (fun i H2 _ h => h.1.seq Sl) ?_ ?_
      · rintro i x H2 hx ⟨sm, ss, eL, hl, hb, hs⟩
        obtain ⟨hi, ex⟩ := List.getElem?_eq_some_iff.mp hx
        have hif : i < fs.length := by rw [← FA.1]; exact hi
        obtain ⟨r, er, sr⟩ := FA.2 i fs[i].1 fs[i].2 (List.getElem?_eq_getElem hif)
        have ext : x = .ref r := Option.some.inj (hx.symm.trans er)
        subst ext
        have hmem := List.getElem_mem hif
        have hm := hf _ hmem
        have hget : fs[i]? = some fs[i] := List.getElem?_eq_getElem hif
        generalize fs[i] = fi at *
        obtain ⟨n, d⟩ := fi
        dsimp only at hm
        obtain ⟨hn1, hn2, hd1, hd2⟩ := hm
        obtain ⟨m, em⟩ := hdv (n, d) hmem
        have em : W = d * m := em
        have ediv : W / d = m := by
          rw [em]
          exact Int.mul_ediv_cancel_left m (by omega)
        have pm : 0 < m := Int.pos_of_mul_pos_right (a := d) (by omega) (by omega)
        have mW : m ≤ W := by
          have := Int.mul_le_mul_of_nonneg_right hd1 (Int.le_of_lt pm)
          omega
        refine ⟨r, [.int n, .int d], rfl, same_seqT sm sr, rfl, _, _, rfl, _, _, rfl, rfl, rfl, ?_⟩
        refine yesT ?_
        refine ⟨_, rfl, _, rfl, _, rfl, _, _, rfl, rfl, wide_div (b := 64) (by omega) (by omega) (by decide) (by decide), _, _, rfl, rfl, .inl ⟨by omega, by omega⟩, _, eL, ?_, same_put sm nL, ss ++ [n * (W / d)], ?_, ?_, fun s h => ?_, fun j n' d' s h1 h2 => ?_⟩
        · rw [List.length_map]
          exact small1000 (by omega)
        · rw [upd_same, List.map_append]
          rfl
        · rw [List.length_append, List.length_singleton, hl]
        · rcases List.mem_append.mp h with h | h
          · exact hb s h
          · rw [List.mem_singleton.mp h, ediv]
            have e1 := Int.mul_le_mul hn2 mW (by omega) (by decide)
            have e2 := Int.mul_pos (show 0 < n by omega) pm
            omega
        · by_cases hj : j < ss.length
          · rw [List.getElem?_append_left hj] at h2
            exact hs j n' d' s h1 h2
          · have hj2 := (List.getElem?_eq_some_iff.mp h2).1
            rw [List.length_append, List.length_singleton] at hj2
            have : j = i := by omega
            subst this
            rw [List.getElem?_append_right (by omega), hl, Nat.sub_self] at h2
            rw [hget] at h1
            cases h1
            cases h2
            rw [ediv, em]
            grind
      · rintro H2 ⟨sm, ss, eL, hl, hb, hs⟩
        rw [FA.1] at hl
        -- by
        refine ⟨_, rfl, L, rfl, ⟨_, SqL.of eL⟩, for_list (K := K) (a := L) (xs := ss.map V.int)
          (fun i σ H3 => ∃ (y : Int) (x6 : Option V), σ = [some (.ref l), some (.int W), x2, x3, some (.ref L), some (.int y), x6] ∧ H3 = H2 ∧ 0 ≤ y ∧ (0 < i → 0 < y) ∧ y ≤ 27000 * 27000 ^ 4 ∧ ∀ s ∈ ss.take i, y ∣ s)
          ⟨0, none, rfl, rfl, by decide, fun h => absurd h (Nat.lt_irrefl 0), by decide, fun s h => by simp at h⟩ (fun i σ H3 _ ⟨_, _, _, e, _⟩ => by rw [e]; exact SqL.of eL) ?_ ?_⟩
        · rintro i x σ H3 hx ⟨y, x6, rfl, rfl, hy0, hy1, hyb, hyd⟩
          obtain ⟨hi, ex⟩ := List.getElem?_eq_some_iff.mp hx
          rw [List.length_map] at hi
          rw [List.getElem_map] at ex
          subst ex
          have hsb := hb _ (List.getElem_mem hi)
          have htk : ss.take (i + 1) = ss.take i ++ [ss[i]] := List.take_succ_eq_append_getElem hi
          generalize ss[i] = t at *
          have gp := gcd_pos (n := y) (d := t) (by omega)
          have gl := gcd_le (n := y) (d := t) (by omega)
          refine ⟨_, rfl, _, rfl, y, t, rfl, hy0, by omega, _, _, rfl, rfl, by omega, fun _ => gp, by omega, fun s h => ?_⟩
          rw [htk] at h
          rcases List.mem_append.mp h with h | h
          · exact Int.dvd_trans (Int.gcd_dvd_left ..) (hyd s h)
          · rw [List.mem_singleton.mp h]
            exact Int.gcd_dvd_right ..
        · rintro σ H3 ⟨y, x6, rfl, rfl, hy0, hy1, hyb, hyd⟩
          rw [List.length_map] at hy1 hyd
          rw [List.take_length] at hyd
          have hy : 0 < y := hy1 (by omega)
          have big : (27000 : Int) * 27000 ^ 4 = 14348907000000000000000 := by decide
          -- return tuple([..])
          refine ⟨_, rfl, L, rfl, ⟨_, SqL.of eL⟩, fun M nM => ?_⟩
          have zM := same_upd (o := .lst []) nM
          have hLM : L ≠ M := fun z => by
            rw [← z, eL] at nM
            cases nM
          refine lc_list (K := K) (a := L) (xs := ss.map V.int) (fun i H4 => Same H3 H4 ∧ H4 M = some (.lst (((ss.take i).map fun s => s / y).map V.int)))
            ⟨zM, upd_same⟩ (fun i H4 _ h => SqL.of (h.1 _ _ eL)) ?_ ?_
          · rintro i x H4 hx ⟨sm4, eM⟩
            obtain ⟨hi, ex⟩ := List.getElem?_eq_some_iff.mp hx
            rw [List.length_map] at hi
            rw [List.getElem_map] at ex
            subst ex
            refine ⟨rfl, ?_⟩
            refine yesT ?_
            refine ⟨_, rfl, _, rfl, _, _, rfl, rfl, wide_div (b := 80) hy (by omega) (by decide) (by decide), _, eM, ?_, same_put sm4 nM, ?_⟩
            · rw [List.length_map, List.length_map, List.length_take]
              exact small1000 (by omega)
            · rw [upd_same, List.take_succ_eq_append_getElem hi, List.map_append, List.map_append]
              rfl
          · rintro H4 ⟨sm4, eM⟩
            rw [List.length_map, List.take_length] at eM
            refine ⟨M, _, rfl, .inl ⟨SqL.of eM, fun q' nq => ?_⟩⟩
            refine q _ q' _ y W ((sm.trans sm4).trans (same_upd nq)) (.inl (.inl upd_same)) hy (by omega) (by rw [List.length_map, hl]) fun i n d p h1 h2 => ?_
            rw [List.getElem?_map] at h2
            cases hsi : ss[i]? with
            | none =>
              rw [hsi] at h2
              cases h2
            | some s =>
              rw [hsi] at h2
              cases h2
              have e1 := hs i n d s h1 hsi
              have e2 := Int.ediv_mul_cancel (hyd s (List.mem_of_getElem? hsi))
              rw [e2]
              exact e1
end
end Sm
end
section
set_option Elab.async false
set_option linter.all false
set_option maxRecDepth 100000
set_option maxHeartbeats 4000000
namespace Sm
open PySem PySem.Spec PyProof.Rows L2 SmR
/-! ### worths -/
def kinds (k : Int) : List Int := (List.range k.toNat).map fun i : Nat => (i : Int)
theorem mem_kinds {k c : Int} : c ∈ kinds k ↔ 0 ≤ c ∧ c < k := by
  unfold kinds
  rw [List.mem_map]
  constructor
  · rintro ⟨i, hi, rfl⟩
    have := List.mem_range.mp hi
    omega
  · rintro ⟨h0, h1⟩
    exact ⟨c.toNat, List.mem_range.mpr (by omega), by omega⟩
theorem rgV_kinds (k : Int) : rgV 0 k = (kinds k).map V.int := by
  unfold rgV kinds
  rw [List.map_map, Int.sub_zero]
  refine List.map_congr_left fun i _ => ?_
  show V.int (0 + (i : Int)) = V.int (i : Int)
  rw [Int.zero_add]
theorem nogain_all {k : Int} {os : List Off} (ok : OsOk k os) (h : ∀ c ∈ kinds k, NoGain os c) (c : Int) : NoGain os c := by
  intro L l
  obtain ⟨T, i, t, b, s, d, e⟩ := id l
  have := ok.each i b.1.1
  refine h c (mem_kinds.mpr ?_) L l
  rw [← d]
  exact ⟨this.2.2.1, this.2.2.2.1⟩
/-- ps tells prices in the proportions of the greatest ratios -/
def Priced (k : Int) (os : List Off) (ps : List Int) : Prop := ps.length = k.toNat ∧ ∃ y W : Int, 0 < y ∧ 0 < W ∧ ∀ c, 0 ≤ c → c < k → ∃ n d p, ps[c.toNat]? = some p ∧ Price os c n d ∧ n ≤ 27000 ∧ d ≤ 27000 ∧ p * y * d = n * W
section
variable {P : Program} {w : World} {K : PySem.W.Frag} {mg : Str → Option Value} {base : Heap}
def spWorths (K : PySem.W.Frag) : Sp := fun vs H Q _ => ∃ (p : Addr) (k : Int) (os : List Off), vs = [.ref p] ∧ BoardAt K H p k os ∧ OsOk k os ∧
  (∀ (H' : Hp) (r q : Addr) (ps : List Int), Same H H' → (∀ c, NoGain os c) → SqT K H' r [.str "prices", .ref q] → SqT K H' q (ps.map V.int) → Priced k os ps → Q (.ref r) H') ∧
  (∀ (H' : Hp) (r t : Addr), Same H H' → (∃ c, ¬ NoGain os c) → SqT K H' r [.str "loop", .ref t] → Q (.ref r) H')
theorem ok_Worths (D : Dfn K mg "worths" sWorths ["board"]) (GGainingLoop : Ok P w K mg base 7 "gaining_loop" ["board", "kinds"] (spGain K)) (GScaled : Ok P w K mg base 2 "scaled" ["fractions"] (spScaled K))
    (GPriceOf : Ok P w K mg base 6 "price_of" ["board", "kind"] (spPrice K)) (mlist : mg "list" = none) (mrange : mg "range" = none) {tL tP : Tok} (mLOOP : mg "LOOP" = some (.str "loop" tL)) (mPRICES : mg "PRICES" = some (.str "prices" tP)) :
    Ok P w K mg base 8 "worths" ["board"] (spWorths K) := by
  refine ok_by D scWorths (fun vs H Q E h => ?_) (fun f cdv A outer s H vs Q E hr h => ?_)
  · obtain ⟨p, k, os, rfl, _⟩ := h
    rfl
  · obtain ⟨p, k, os, rfl, B, ok, q0, q1⟩ := h
    have hk2 := ok.k2
    have hk4 := ok.k4
    refine ⟨_, (pss_cons (ps_set (i := 1) scWorths.nd rfl (.inl rfl) (pe_ok GGainingLoop (hr.mono (by decide)) (by rfl) (pa_cons (pv 0) (pa_cons (pe_listRg rfl (by rfl) mlist (prg_1 (by rfl) mrange (pe_ix ix_tup (pv 0) pe_int (fun _ _ => rfl)))) pa_nil))))
    (pss_cons (ps_if (pt_cmpR op_notN (pv 1) pe_non (nomark _)) (pss_one (ps_ret (pe_tup (pa_cons (pe_glob (v := .str "loop") rfl mLOOP ⟨_, rfl⟩) (pa_cons (pv 1) pa_nil))))) pss_nil)
    (pss_one (ps_ret (pe_tup (pa_cons (pe_glob (v := .str "prices") rfl mPRICES ⟨_, rfl⟩) (pa_cons (pe_ok GScaled (hr.mono (by decide)) (by rfl) (pa_cons (pe_lc (own := [("kind", 2)]) (g := gName 2) (tt := tYes) rfl scWorths.nd (pi_range1 rfl mrange (pa_cons (pe_ix ix_tup (pv 0) pe_int (fun _ _ => rfl)) pa_nil)) (blkOk_by (N := nWorths) (sc := defScope sWorths) (by decide +kernel)) (fun _ _ _ _ _ => (pg_name (i := 2) scWorths.nd rfl (.inl rfl))) (fun _ _ _ _ _ => pts_nil) (fun _ _ _ _ _ => (pe_ok GPriceOf (hr.mono (by decide)) (by rfl) (pa_cons (pv 0) (pa_cons (pv 2) pa_nil))))) pa_nil)) pa_nil))))))), ?_⟩
    refine ⟨_, rfl, rd_k rfl B ⟨k, rfl, RgOk.of_le (by decide) (by omega) (by decide) (by omega), fun l nl => ?_⟩⟩
    have zl := same_upd (o := .lst (rgV 0 k)) nl
    refine ⟨p, l, k, os, kinds k, rfl, B.same zl, ok, SqL.of (by rw [← rgV_kinds]; exact upd_same), fun c h => mem_kinds.mp h, fun H1 s1 hng => ?_, fun H1 t s1 hgn => ?_⟩
    · refine ⟨_, rfl, rfl, _, rfl, iteNS rfl ?_⟩
      have z1 := zl.trans s1
      have B1 := B.same z1
      refine rd_k rfl B1 ⟨k, rfl, by omega, by omega, fun L nL => ?_⟩
      have zL := same_upd (o := .lst []) nL
      refine lc_range (lo := 0) (n := k.toNat) (fun i H2 => Same H1 H2 ∧ ∃ (us : List V) (fs : List (Int × Int)), H2 L = some (.lst us) ∧ FrAt K H2 us fs ∧ fs.length = i ∧ ∀ (j : Nat) (n d : Int), fs[j]? = some (n, d) → Price os (j : Int) n d ∧ n ≤ 27000 ∧ d ≤ 27000)
        ⟨zL, [], [], upd_same, ⟨rfl, fun i n d h => by simp at h⟩, rfl, fun j n d h => by simp at h⟩ ?_ ?_
      · rintro i H2 hi ⟨s2, us, fs, eL, fa, hl, hp⟩
        refine ⟨rfl, ?_⟩
        refine yesT ?_
        refine ⟨_, rfl, _, rfl, p, k, 0 + (i : Int), os, rfl, B1.same s2, ok, by omega, by omega, fun H3 r n d s3 S3 pr hn hd => ?_⟩
        rw [Int.zero_add] at pr
        refine ⟨us, s3 _ _ eL, ?_, same_put (s2.trans s3) nL, us ++ [.ref r], fs ++ [(n, d)], upd_same, ?_, by rw [List.length_append, List.length_singleton, hl], fun j n' d' h => ?_⟩
        · rw [fa.1]
          exact small1000 (by omega)
        · have fa3 : FrAt K (upd H3 L (.lst (us ++ [.ref r]))) us fs := ⟨fa.1, fun j n' d' h => by
            obtain ⟨r', a, b⟩ := fa.2 j n' d' h
            exact ⟨r', a, seqT_wr (same_seqT s3 b) (s3 _ _ eL)⟩⟩
          have S4 : SqT K (upd H3 L (.lst (us ++ [.ref r]))) r [.int n, .int d] := seqT_wr S3 (s3 _ _ eL)
          refine ⟨by rw [List.length_append, List.length_append, fa.1, List.length_singleton, List.length_singleton], fun j n' d' h => ?_⟩
          by_cases hj : j < fs.length
          · rw [List.getElem?_append_left hj] at h
            rw [List.getElem?_append_left (by rw [fa.1]; exact hj)]
            exact fa3.2 j n' d' h
          · have hl2 := (List.getElem?_eq_some_iff.mp h).1
            rw [List.length_append, List.length_singleton] at hl2
            have e : j = fs.length := by omega
            subst e
            rw [List.getElem?_append_right (Nat.le_refl _), Nat.sub_self] at h
            cases h
            exact ⟨r, by rw [← fa.1, List.getElem?_append_right (Nat.le_refl _), Nat.sub_self]; rfl, S4⟩
        · by_cases hj : j < fs.length
          · rw [List.getElem?_append_left hj] at h
            exact hp j n' d' h
          · have hl2 := (List.getElem?_eq_some_iff.mp h).1
            rw [List.length_append, List.length_singleton] at hl2
            have e : j = fs.length := by omega
            subst e
            rw [List.getElem?_append_right (Nat.le_refl _), Nat.sub_self] at h
            cases h
            rw [hl]
            exact ⟨pr, hn, hd⟩
      · rintro H2 ⟨s2, us, fs, eL, fa, hl, hp⟩
        refine ⟨L, us, fs, rfl, SqL.of eL, fa, by omega, by omega, fun g hg => ?_, fun H3 q' ps y W s3 S3 hy hW hpl hpp => ?_⟩
        · obtain ⟨j, hj, ej⟩ := List.getElem_of_mem hg
          obtain ⟨n, d⟩ := g
          have := hp j n d (by rw [List.getElem?_eq_getElem hj, ej])
          have p1 := this.1.1
          have p2 := this.1.2.1
          exact ⟨by show 1 ≤ n; omega, this.2.1, by show 1 ≤ d; omega, this.2.2⟩
        · refine ⟨(by show 2 ≤ sizeLine; decide), fun r nr => ?_⟩
          have zr := same_upd (o := .tup [.str "prices", .ref q']) nr
          refine q0 _ r q' ps (((z1.trans s2).trans s3).trans zr) (nogain_all ok hng) (.inl (.inl upd_same)) (same_seqT zr S3) ⟨by rw [hpl, hl], y, W, hy, hW, fun c h0 h1 => ?_⟩
          have hc : c.toNat < fs.length := by omega
          have hc2 : c.toNat < ps.length := by omega
          have hgf : fs[c.toNat]? = some (fs[c.toNat].1, fs[c.toNat].2) := List.getElem?_eq_getElem hc
          have hgp : ps[c.toNat]? = some ps[c.toNat] := List.getElem?_eq_getElem hc2
          obtain ⟨a1, a2, a3⟩ := hp _ _ _ hgf
          rw [show ((c.toNat : Nat) : Int) = c by omega] at a1
          exact ⟨_, _, _, hgp, a1, a2, a3, hpp _ _ _ _ hgf hgp⟩
    · refine ⟨_, rfl, rfl, _, rfl, ?_⟩
      have e : (!decide (V.ref t = V.non)) = true := by
        rw [decide_eq_false (by intro z; cases z)]
        rfl
      rw [e]
      refine iteT ⟨_, rfl, (by show 2 ≤ sizeLine; decide), fun r nr => ?_⟩
      obtain ⟨c, _, hc⟩ := hgn
      exact q1 _ r t ((zl.trans s1).trans (same_upd nr)) ⟨c, hc⟩ (.inl (.inl upd_same))
/-! ### leads -/
def spLeads (K : PySem.W.Frag) : Sp := fun vs H Q _ => ∃ (p : Addr) (k a c : Int) (os : List Off), vs = [.ref p, .int a, .int c] ∧ BoardAt K H p k os ∧ OsOk k os ∧ 0 ≤ a ∧ a < k ∧ 0 ≤ c ∧ c < k ∧
  ∀ (H' : Hp) (b : Bool), Same H H' → (b = true ↔ Reach os a c) → Q (.bl b) H'
theorem ok_Leads (D : Dfn K mg "leads" sLeads ["board", "one", "other"]) (GRequireKind : Ok P w K mg base 3 "require_kind" ["board", "kind"] (spReq K)) (GReachedFrom : Ok P w K mg base 2 "reached_from" ["board", "kind"] (spReach K)) :
    Ok P w K mg base 4 "leads" ["board", "one", "other"] (spLeads K) := by
  refine ok_by D scLeads (fun vs H Q E h => ?_) (fun f cdv A outer s H vs Q E hr h => ?_)
  · obtain ⟨p, k, a, c, os, rfl, _⟩ := h
    rfl
  · obtain ⟨p, k, a, c, os, rfl, B, ok, ha0, ha1, hc0, hc1, q⟩ := h
    refine ⟨_, (pss_cons (ps_expr (pe_ok GRequireKind (hr.mono (by decide)) (by rfl) (pa_cons (pv 0) (pa_cons (pv 1) pa_nil))))
    (pss_cons (ps_expr (pe_ok GRequireKind (hr.mono (by decide)) (by rfl) (pa_cons (pv 0) (pa_cons (pv 2) pa_nil))))
    (pss_one (ps_ret (pe_cmpR op_in_seq (pv 2) (pe_ok GReachedFrom (hr.mono (by decide)) (by rfl) (pa_cons (pv 0) (pa_cons (pv 1) pa_nil))) (by rfl)))))), ?_⟩
    refine ⟨_, rfl, _, rfl, p, k, a, os, rfl, B, ha0, ha1, ?_⟩
    refine ⟨_, rfl, _, rfl, p, k, c, os, rfl, B, hc0, hc1, ?_⟩
    refine ⟨_, rfl, _, rfl, _, rfl, p, k, a, os, rfl, B, ok, ha0, ha1, fun H1 D1 R s1 n1 e1 hl hrg hR => ?_⟩
    refine ⟨D1, _, rfl, .inl (SqL.of e1), rfl, flat_map_ints R, ?_⟩
    show Q (.bl (inV (.int c) (R.map V.int))) H1
    rw [inV_ints]
    exact q H1 _ s1 (by rw [decide_eq_true_eq]; exact hR c)
end
end Sm
end
section
set_option Elab.async false
set_option linter.all false
set_option maxRecDepth 100000
set_option maxHeartbeats 4000000
namespace Sm
open PySem PySem.Spec PyProof.Rows L2 SmR
theorem lay_ints : ∀ ns : List Int, PyData.canLayAll0 (ns.map PyData.int) = true
  | [] => by simp [PyData.canLayAll0]
  | n :: ns => by simp [PyData.canLayAll0, PyData.canLay0, lay_ints ns]
theorem shaped_lst (ns : List Int) : SeqAt.shaped (.list (ns.map PyData.int)) = true := by
  have h2 : PyData.depth (.list (ns.map PyData.int)) ≤ 64 := by
    simp only [PyData.depth, depth_ints]
    omega
  show (PyData.canLay0 (.list (ns.map PyData.int)) && decide (PyData.depth (.list (ns.map PyData.int)) ≤ 64)) = true
  rw [Bool.and_eq_true]
  exact ⟨by simp only [PyData.canLay0]; exact lay_ints ns, decide_eq_true h2⟩
section
variable {P : Program} {w : World} {K : PySem.W.Frag} {mg : Str → Option Value} {base : Heap}
/-! ### best_between -/
def spBB (K : PySem.W.Frag) : Sp := fun vs H Q _ => ∃ (p : Addr) (k a c : Int) (os : List Off), vs = [.ref p, .int a, .int c] ∧ BoardAt K H p k os ∧ OsOk k os ∧ 0 ≤ a ∧ a < k ∧ 0 ≤ c ∧ c < k ∧ (∀ c, NoGain os c) ∧
  (∀ H', Same H H' → ¬ Reach os a c → Q .non H') ∧ (∀ (H' : Hp) (t : Addr) (T : List Nat), Same H H' → TrAt K H' t T → Top os a c T → Q (.ref t) H')
theorem ok_BestBetween (D : Dfn K mg "best_between" sBestBetween ["board", "one", "other"]) (GReachedFrom : Ok P w K mg base 2 "reached_from" ["board", "kind"] (spReach K)) (GGainingLoop : Ok P w K mg base 7 "gaining_loop" ["board", "kinds"] (spGain K))
    (GTrailsFrom : Ok P w K mg base 5 "trails_from" ["board", "kind"] (spTrails K)) (GEndOf : Ok P w K mg base 1 "end_of" ["board", "kind", "trail"] (spEnd K)) (GRatioOf : Ok P w K mg base 3 "ratio_of" ["board", "indexes"] (spRatio K))
    (GIsGreater : Ok P w K mg base 1 "is_greater" ["one", "other"] (spGr K)) : Ok P w K mg base 8 "best_between" ["board", "one", "other"] (spBB K) := by
  refine ok_by D scBestBetween (fun vs H Q E h => ?_) (fun f cdv A outer s H vs Q E hr h => ?_)
  · obtain ⟨p, k, a, c, os, rfl, _⟩ := h
    rfl
  · obtain ⟨p, k, a, c, os, rfl, B, ok, ha0, ha1, hc0, hc1, ng, q0, q1⟩ := h
    refine ⟨_, (pss_cons (ps_setLc (i := 3) (own := [("kind", 6)]) (g := gName 6) rfl scBestBetween.nd rfl rfl (sw_true rfl rfl rfl (by decide +kernel)) (pi_list (pe_ok GReachedFrom (hr.mono (by decide)) (by rfl) (pa_cons (pv 0) (pa_cons (pv 1) pa_nil)))) (blkOk_by (N := nBestBetween) (sc := defScope sBestBetween) (by decide +kernel)) (fun _ _ _ _ _ => (pg_name (i := 6) scBestBetween.nd rfl (.inl rfl))) (fun _ _ _ _ _ => (pts_one (pt_cmpR (opIn (K := K) rfl) (pv 2) (pe_ok GReachedFrom (hr.mono (by decide)) (by rfl) (pa_cons (pv 0) (pa_cons (pv 6) pa_nil))) (by rfl)))) (fun _ _ _ _ _ => (pv 6)))
    (pss_cons (ps_if (pt_cmpR (op_eqD hr.units) (pv 3) (pe_lst pa_nil) (nomark _)) (pss_one (ps_ret pe_non)) pss_nil)
    (pss_cons (ps_if (pt_cmpR op_notN (pe_ok GGainingLoop (hr.mono (by decide)) (by rfl) (pa_cons (pv 0) (pa_cons (pv 3) pa_nil))) pe_non (nomark _)) (pss_one (ps_never)) pss_nil)
    (pss_cons (ps_set (i := 4) scBestBetween.nd rfl (.inl rfl) pe_non)
    (pss_cons (ps_for PassesOwn.never rfl (pi_list (pe_lc (own := [("found", 7)]) (g := gName 7) rfl scBestBetween.nd (pi_list (pe_ok GTrailsFrom (hr.mono (by decide)) (by rfl) (pa_cons (pv 0) (pa_cons (pv 1) pa_nil)))) (blkOk_by (N := nBestBetween) (sc := defScope sBestBetween) (by decide +kernel)) (fun _ _ _ _ _ => (pg_name (i := 7) scBestBetween.nd rfl (.inl rfl))) (fun _ _ _ _ _ => (pts_one (pt_cmpR op_eq (pe_ok GEndOf (hr.mono (by decide)) (by rfl) (pa_cons (pv 0) (pa_cons (pv 1) (pa_cons (pv 7) pa_nil)))) (pv 2) (nomark _)))) (fun _ _ _ _ _ => (pv 7)))) (pg_name (i := 5) scBestBetween.nd rfl (.inl rfl))
      (pss_one (ps_if (PW.pt (pw_or (pt_cmpR op_isN (pv 4) pe_non (nomark _)) (pw_or1 (pt_val (pe_ok GIsGreater (hr.mono (by decide)) (by rfl) (pa_cons (pe_ok GRatioOf (hr.mono (by decide)) (by rfl) (pa_cons (pv 0) (pa_cons (pv 5) pa_nil))) (pa_cons (pe_ok GRatioOf (hr.mono (by decide)) (by rfl) (pa_cons (pv 0) (pa_cons (pv 4) pa_nil))) pa_nil))))))) (pss_one (ps_set (i := 4) scBestBetween.nd rfl (.inl rfl) (pv 5))) pss_nil)))
    (pss_one (ps_ret (pv 4)))))))), ?_⟩
    refine ⟨_, rfl, _, rfl, p, k, a, os, rfl, B, ok, ha0, ha1, fun H1 D1 R s1 n1 e1 hl4 hrg hR => ⟨D1, rfl, ⟨_, SqL.of e1⟩, fun L nL => ?_⟩⟩
    have zL := same_upd (o := .lst []) nL
    have B1 := B.same s1
    refine lc_list (K := K) (a := D1) (xs := R.map V.int) (fun i H2 => Same H1 H2 ∧ ∃ Ks : List Int, H2 L = some (.lst (Ks.map V.int)) ∧ Ks.length ≤ i ∧ ∀ x, x ∈ Ks ↔ x ∈ R.take i ∧ Reach os x c)
      ⟨zL, [], upd_same, Nat.le_refl _, fun x => ⟨(fun h => by cases h), (fun h => by simp at h)⟩⟩ (fun i H2 _ h => SqL.of (h.1 _ _ e1)) ?_ ?_
    · rintro i x H2 hx ⟨s2, Ks, eL, hl, hK⟩
      obtain ⟨hi, ex⟩ := List.getElem?_eq_some_iff.mp hx
      rw [List.length_map] at hi
      rw [List.getElem_map] at ex
      subst ex
      have hrx := hrg _ (List.getElem_mem hi)
      have htk : R.take (i + 1) = R.take i ++ [R[i]] := List.take_succ_eq_append_getElem hi
      generalize R[i] = x at *
      refine ⟨rfl, _, rfl, _, rfl, _, rfl, p, k, x, os, rfl, B1.same s2, ok, hrx.1, hrx.2, fun H3 D3 R3 s3 n3 e3 _ _ hR3 => ⟨D3, _, rfl, .inl (SqL.of e3), rfl, flat_map_ints R3, _, rfl, ?_⟩⟩
      rw [if_neg Bool.false_ne_true, inV_ints]
      by_cases hin : c ∈ R3
      · rw [decide_eq_true hin]
        refine iteT ⟨_, rfl, _, s3 _ _ eL, ?_, same_put (s2.trans s3) nL, Ks ++ [x], ?_, ?_, fun z => ?_⟩
        · rw [List.length_map]
          exact small1000 (by omega)
        · rw [upd_same, List.map_append]
          rfl
        · rw [List.length_append, List.length_singleton]
          omega
        · rw [htk, List.mem_append, List.mem_append, hK, List.mem_singleton]
          constructor
          · rintro (⟨h, r⟩ | rfl)
            · exact ⟨.inl h, r⟩
            · exact ⟨.inr rfl, (hR3 c).mp hin⟩
          · rintro ⟨h | h, r⟩
            · exact .inl ⟨h, r⟩
            · exact .inr h
      · rw [decide_eq_false hin]
        refine iteF ⟨s2.trans s3, Ks, s3 _ _ eL, by omega, fun z => ?_⟩
        rw [htk, List.mem_append, hK, List.mem_singleton]
        constructor
        · rintro ⟨h, r⟩
          exact ⟨.inl h, r⟩
        · rintro ⟨h | h, r⟩
          · exact ⟨h, r⟩
          · subst h
            exact absurd ((hR3 c).mpr r) hin
    · rintro H2 ⟨s2, Ks, eL, hl, hK⟩
      rw [List.length_map, List.take_length] at hK
      refine ⟨_, rfl, Nat.zero_le _, fun e ne => ?_⟩
      have ze := same_upd (o := .lst []) ne
      refine ⟨.list (Ks.map PyData.int), .list [], .lst (SqL.of (ze _ _ eL)) (dpAll_ints Ks), .lst (SqL.of upd_same) .nil, shaped_lst Ks, shaped_lst [], _, rfl, ?_⟩
      have sE := (s1.trans s2).trans ze
      cases hKs : Ks with
      | nil =>
        refine iteT (q0 _ sE fun hre => ?_)
        have : a ∈ Ks := (hK a).mpr ⟨(hR a).mpr (Reach.refl a), hre⟩
        rw [hKs] at this
        cases this
      | cons x0 Ks0 =>
        have hre : Reach os a c := by
          have hx0 : x0 ∈ Ks := by
            rw [hKs]
            exact List.mem_cons_self ..
          obtain ⟨h1, h2⟩ := (hK x0).mp hx0
          exact ((hR x0).mp h1).trans h2
        rw [← hKs]
        have e1 : PyData.eqv (.list (Ks.map PyData.int)) (.list []) = false := by
          rw [hKs]
          simp [PyData.eqv, PyData.eqvAll]
        rw [e1]
        have BE := B.same sE
        refine iteF ⟨_, rfl, _, rfl, p, L, k, os, Ks, rfl, BE, ok, SqL.of (ze _ _ eL), fun z hz => hrg z ((hK z).mp hz).1, fun H4 s4 _ => ⟨rfl, _, rfl, iteNS rfl ?_⟩, fun H4 t s4 h => ?_⟩
        · have s04 := sE.trans s4
          refine ⟨_, rfl, _, rfl, p, k, a, os, rfl, B.same s04, ok, ha0, ha1, fun H5 D5 us TS s5 n5 e5 tT hTS hT => ⟨D5, rfl, ⟨_, SqL.of e5⟩, fun M nM => ?_⟩⟩
          have zM := same_upd (o := .lst []) nM
          have s05 := s04.trans s5
          refine lc_list (K := K) (a := D5) (xs := us) (fun i H6 => Same H5 H6 ∧ ∃ (fv : List V) (FS : List (List Nat)), H6 M = some (.lst fv) ∧ TrsAt K H6 fv FS ∧ FS.length ≤ i ∧ ∀ T, T ∈ FS ↔ T ∈ TS.take i ∧ endK os a T = c)
            ⟨zM, [], [], upd_same, ⟨rfl, fun i T h => by simp at h⟩, Nat.le_refl _, fun T => ⟨(fun h => by cases h), (fun h => by simp at h)⟩⟩ (fun i H6 _ h => SqL.of (h.1 _ _ e5)) ?_ ?_
          · rintro i x H6 hx ⟨s6, fv, FS, eM, tF, hFl, hF⟩
            obtain ⟨hi, ex⟩ := List.getElem?_eq_some_iff.mp hx
            have hiT : i < TS.length := by rw [← tT.1]; exact hi
            obtain ⟨t, et, st⟩ := tT.2 i TS[i] (List.getElem?_eq_getElem hiT)
            have ext : x = .ref t := Option.some.inj (hx.symm.trans et)
            subst ext
            have tr := (hT _).mp (List.getElem_mem hiT)
            have htk : TS.take (i + 1) = TS.take i ++ [TS[i]] := List.take_succ_eq_append_getElem hiT
            generalize TS[i] = T at *
            have h3 := trail_len ok ha0 ha1 tr
            refine ⟨rfl, _, rfl, _, rfl, _, rfl, p, t, k, a, os, T, rfl, B.same (s05.trans s6), same_seqT s6 st, chain_idx T a tr.1, by omega, fun H7 s7 => ⟨_, rfl, rfl, _, rfl, ?_⟩⟩
            by_cases he : endK os a T = c
            · rw [decide_eq_true (congrArg V.int he)]
              refine iteT ⟨_, rfl, _, s7 _ _ eM, ?_, same_put (s6.trans s7) nM, fv ++ [.ref t], FS ++ [T], upd_same, ?_, ?_, fun U => ?_⟩
              · rw [tF.1]
                exact big_line (by omega)
              · have kp : Kp K M M H6 (upd H7 M (.lst (fv ++ [.ref t]))) := (Kp.of s7).trans (Kp.w (s7 _ _ eM))
                exact (tF.keep kp).snoc (kp.1 _ _ (same_seqT s6 st))
              · rw [List.length_append, List.length_singleton]
                omega
              · rw [htk, List.mem_append, List.mem_append, hF, List.mem_singleton]
                constructor
                · rintro (⟨h, r⟩ | rfl)
                  · exact ⟨.inl h, r⟩
                  · exact ⟨.inr rfl, he⟩
                · rintro ⟨h | h, r⟩
                  · exact .inl ⟨h, r⟩
                  · exact .inr h
            · rw [decide_eq_false (fun z => he (V.int.inj z))]
              refine iteF ⟨s6.trans s7, fv, FS, s7 _ _ eM, tF.same s7, by omega, fun U => ?_⟩
              rw [htk, List.mem_append, hF, List.mem_singleton]
              constructor
              · rintro ⟨h, r⟩
                exact ⟨.inl h, r⟩
              · rintro ⟨h | h, r⟩
                · exact ⟨h, r⟩
                · subst h
                  exact absurd r he
          · rintro H6 ⟨s6, fv, FS, eM, tF, hFl, hF⟩
            rw [tT.1, List.take_length] at hF
            have hFT : ∀ T, T ∈ FS ↔ Trail os a T ∧ endK os a T = c := fun T => by rw [hF, hT]
            have s06 := s05.trans s6
            have fin : ∀ (m : Nat) (H8 : Hp), Same H6 H8 → ∀ U : List Nat, U ∈ FS → U.length ≤ 3 ∧ (∀ i ∈ U, i < os.length) ∧ Trail os a U := fun m H8 _ U hU => by
              have t := ((hFT U).mp hU).1
              exact ⟨trail_len ok ha0 ha1 t, chain_idx U a t.1, t⟩
            refine ⟨M, rfl, ⟨_, SqL.of eM⟩, for_list (K := K) (a := M) (xs := fv)
              (fun m σ H8 => ∃ b x5, σ = [some (.ref p), some (.int a), some (.int c), some (.ref L), some b, x5, none, none] ∧ Same H6 H8 ∧ ((m = 0 ∧ b = .non) ∨ ∃ t T, b = .ref t ∧ TrAt K H8 t T ∧ T ∈ FS ∧ ∀ U ∈ FS.take m, num os U * den os T ≤ num os T * den os U))
              ⟨.non, none, rfl, Same.refl H6, .inl ⟨rfl, rfl⟩⟩ (fun m σ H8 _ ⟨_, _, _, e, _⟩ => SqL.of (e _ _ eM)) ?_ ?_⟩
            · rintro m x σ H8 hx ⟨b, x5, rfl, s8, hb⟩
              obtain ⟨hm, ex⟩ := List.getElem?_eq_some_iff.mp hx
              have hmF : m < FS.length := by rw [← tF.1]; exact hm
              obtain ⟨tu, et, stu⟩ := tF.2 m FS[m] (List.getElem?_eq_getElem hmF)
              have ext : x = .ref tu := Option.some.inj (hx.symm.trans et)
              subst ext
              have hmem := List.getElem_mem hmF
              have htk : FS.take (m + 1) = FS.take m ++ [FS[m]] := List.take_succ_eq_append_getElem hmF
              generalize FS[m] = U at *
              obtain ⟨hU3, hUi, trU⟩ := fin m H8 s8 U hmem
              have stu8 := same_seqT s8 stu
              refine ⟨_, rfl, rfl, _, rfl, ?_⟩
              rcases hb with ⟨rfl, rfl⟩ | ⟨t, T, rfl, st, hTm, hbest⟩
              · rw [decide_eq_true rfl]
                refine iteT (iteT ⟨_, rfl, .ref tu, some (.ref tu), rfl, s8, .inr ⟨tu, U, rfl, stu8, hmem, fun V hV => ?_⟩⟩)
                rw [htk] at hV
                simp only [List.take_zero, List.nil_append, List.mem_singleton] at hV
                subst hV
                exact Int.le_refl _
              · rw [decide_eq_false (by intro z; cases z)]
                obtain ⟨hT3, hTi, trT⟩ := fin m H8 s8 T hTm
                have s08 := s06.trans s8
                refine iteF ⟨_, rfl, _, rfl, p, tu, k, os, U, rfl, B.same s08, ok, stu8, hUi, by omega, fun H9 r1 s9 n9 e9 => ?_⟩
                refine ⟨_, rfl, _, rfl, p, t, k, os, T, rfl, (B.same s08).same s9, ok, same_seqT s9 st, hTi, by omega, fun H10 r2 s10 n10 e10 => ?_⟩
                have bU := trail_bd ok ha0 ha1 trU
                have bT := trail_bd ok ha0 ha1 trT
                have lU := low_bd (n := num os U) (d := den os U) (by omega) (by omega)
                have lT := low_bd (n := num os T) (d := den os T) (by omega) (by omega)
                have hc := frac_lt (n1 := num os U) (d1 := den os U) (n2 := num os T) (d2 := den os T) (by omega) (by omega)
                have dp := den_pos ok
                refine ⟨r1, r2, _, _, _, _, rfl, SqT.of (s10 _ _ e9), SqT.of e10, ⟨by omega, by omega⟩, ⟨by omega, by omega⟩, _, rfl, ?_⟩
                by_cases hgt : num os T * den os U < num os U * den os T
                · rw [decide_eq_true (hc.mpr hgt)]
                  refine iteT ⟨_, rfl, .ref tu, some (.ref tu), rfl, s8.trans (s9.trans s10), .inr ⟨tu, U, rfl, same_seqT (s9.trans s10) stu8, hmem, fun V hV => ?_⟩⟩
                  rw [htk] at hV
                  rcases List.mem_append.mp hV with hV | hV
                  · exact le_trans3 (dp V) (dp T) (dp U) (hbest V hV) (Int.le_of_lt hgt)
                  · rw [List.mem_singleton.mp hV]
                    exact Int.le_refl _
                · rw [decide_eq_false (fun z => hgt (hc.mp z))]
                  refine iteF ⟨.ref t, some (.ref tu), rfl, s8.trans (s9.trans s10), .inr ⟨t, T, rfl, same_seqT (s9.trans s10) st, hTm, fun V hV => ?_⟩⟩
                  rw [htk] at hV
                  rcases List.mem_append.mp hV with hV | hV
                  · exact hbest V hV
                  · rw [List.mem_singleton.mp hV]
                    exact Int.not_lt.mp hgt
            · rintro σ H8 ⟨b, x5, rfl, s8, hb⟩
              rw [tF.1, List.take_length] at hb
              rcases hb with ⟨hz, rfl⟩ | ⟨t, T, rfl, st, hTm, hbest⟩
              · exfalso
                obtain ⟨T, tr, te⟩ := (reach_trail ok ng).mp hre
                have := (hFT T).mpr ⟨tr, te⟩
                rw [List.length_eq_zero_iff.mp hz] at this
                cases this
              · obtain ⟨trT, teT⟩ := (hFT T).mp hTm
                exact ⟨_, rfl, q1 H8 t T (s06.trans s8) st ⟨trT, teT, fun V v ve => hbest V ((hFT V).mpr ⟨v, ve⟩)⟩⟩
        · obtain ⟨z, _, hz⟩ := h
          exact absurd (ng z) hz
/-! ### best_trail, ratio -/
theorem ok_BestTrail (D : Dfn K mg "best_trail" sBestTrail ["board", "one", "other"]) (GRequireKind : Ok P w K mg base 3 "require_kind" ["board", "kind"] (spReq K)) (GBestBetween : Ok P w K mg base 8 "best_between" ["board", "one", "other"] (spBB K)) :
    Ok P w K mg base 9 "best_trail" ["board", "one", "other"] (spBB K) := by
  refine ok_by D scBestTrail (fun vs H Q E h => ?_) (fun f cdv A outer s H vs Q E hr h => ?_)
  · obtain ⟨p, k, a, c, os, rfl, _⟩ := h
    rfl
  · obtain ⟨p, k, a, c, os, rfl, B, ok, ha0, ha1, hc0, hc1, ng, q0, q1⟩ := h
    refine ⟨_, (pss_cons (ps_expr (pe_ok GRequireKind (hr.mono (by decide)) (by rfl) (pa_cons (pv 0) (pa_cons (pv 1) pa_nil))))
    (pss_cons (ps_expr (pe_ok GRequireKind (hr.mono (by decide)) (by rfl) (pa_cons (pv 0) (pa_cons (pv 2) pa_nil))))
    (pss_one (ps_ret (pe_ok GBestBetween (hr.mono (by decide)) (by rfl) (pa_cons (pv 0) (pa_cons (pv 1) (pa_cons (pv 2) pa_nil)))))))), ?_⟩
    refine ⟨_, rfl, _, rfl, p, k, a, os, rfl, B, ha0, ha1, ?_⟩
    refine ⟨_, rfl, _, rfl, p, k, c, os, rfl, B, hc0, hc1, ?_⟩
    exact ⟨_, rfl, _, rfl, _, rfl, p, k, a, c, os, rfl, B, ok, ha0, ha1, hc0, hc1, ng, q0, q1⟩
def spRat (K : PySem.W.Frag) : Sp := fun vs H Q _ => ∃ (p : Addr) (k a c : Int) (os : List Off), vs = [.ref p, .int a, .int c] ∧ BoardAt K H p k os ∧ OsOk k os ∧ 0 ≤ a ∧ a < k ∧ 0 ≤ c ∧ c < k ∧ (∀ c, NoGain os c) ∧
  (∀ H', Same H H' → ¬ Reach os a c → Q .non H') ∧ (∀ (H' : Hp) (r : Addr) (T : List Nat), Same H H' → H' r = some (frac (num os T) (den os T)) → Top os a c T → Q (.ref r) H')
theorem ok_Ratio (D : Dfn K mg "ratio" sRatio ["board", "one", "other"]) (GBestTrail : Ok P w K mg base 9 "best_trail" ["board", "one", "other"] (spBB K)) (GRatioOf : Ok P w K mg base 3 "ratio_of" ["board", "indexes"] (spRatio K)) :
    Ok P w K mg base 10 "ratio" ["board", "one", "other"] (spRat K) := by
  refine ok_by D scRatio (fun vs H Q E h => ?_) (fun f cdv A outer s H vs Q E hr h => ?_)
  · obtain ⟨p, k, a, c, os, rfl, _⟩ := h
    rfl
  · obtain ⟨p, k, a, c, os, rfl, B, ok, ha0, ha1, hc0, hc1, ng, q0, q1⟩ := h
    refine ⟨_, (pss_cons (ps_set (i := 3) scRatio.nd rfl (.inl rfl) (pe_ok GBestTrail (hr.mono (by decide)) (by rfl) (pa_cons (pv 0) (pa_cons (pv 1) (pa_cons (pv 2) pa_nil)))))
    (pss_one (ps_ret (pe_ifExp (pt_cmpR op_isN (pv 3) pe_non (nomark _)) pe_non (pe_ok GRatioOf (hr.mono (by decide)) (by rfl) (pa_cons (pv 0) (pa_cons (pv 3) pa_nil))))))), ?_⟩
    refine ⟨_, rfl, _, rfl, _, rfl, p, k, a, c, os, rfl, B, ok, ha0, ha1, hc0, hc1, ng, fun H1 s1 hn => ?_, fun H1 t T s1 st top => ?_⟩
    · refine ⟨_, rfl, rfl, _, rfl, ?_⟩
      rw [decide_eq_true rfl]
      exact iteT (q0 H1 s1 hn)
    · refine ⟨_, rfl, rfl, _, rfl, ?_⟩
      rw [decide_eq_false (by intro z; cases z)]
      have h3 := trail_len ok ha0 ha1 top.1
      exact iteF ⟨_, rfl, _, rfl, p, t, k, os, T, rfl, B.same s1, ok, st, chain_idx T a top.1.1, by omega, fun H2 r s2 n2 e2 => q1 H2 r T (s1.trans s2) e2 top⟩
end
end Sm
end
section
set_option Elab.async false
set_option linter.all false
set_option maxRecDepth 100000
set_option maxHeartbeats 4000000
namespace Sm
open PySem PySem.Spec PyProof.Rows L2 SmR
/-! ### the deck -/
structure DeckAt (H : Hp) (d c : Addr) (cs : List Int) (n : Int) : Prop where
  hd : H d = some (.lst [.ref c, .int n])
  hc : H c = some (.lst (cs.map V.int))
  ne : c ≠ d
  nn : ∀ x ∈ cs, 0 ≤ x
  n0 : 0 ≤ n
  len : cs.length ≤ 63
/-- all but the deck is as it was -/
def But (d c : Addr) (H H' : Hp) : Prop := ∀ b x, b ≠ d → b ≠ c → H b = some x → H' b = some x
section
variable {d c : Addr} {H H' H2 : Hp} {K : PySem.W.Frag}
theorem But.refl : But d c H H := fun _ _ _ _ h => h
theorem But.trans (a : But d c H H') (b : But d c H' H2) : But d c H H2 := fun x o h1 h2 h => b x o h1 h2 (a x o h1 h2 h)
theorem But.of (s : Same H H') : But d c H H' := fun x o _ _ h => s x o h
theorem But.wd {o : HO} : But d c H (upd H d o) := fun x p h1 _ h => by rw [upd_ne h1]; exact h
theorem But.wc {o : HO} : But d c H (upd H c o) := fun x p _ h2 h => by rw [upd_ne h2]; exact h
theorem But.seqT {cs : List Int} {n : Int} (b : But d c H H') (D : DeckAt H d c cs n) {r : Addr} {xs : List V} (h : SqT K H r xs) : SqT K H' r xs := by
  rcases h with (h | ⟨o, h⟩) | h
  · exact .inl (.inl (b _ _ (ne_of h D.hd (by intro z; cases z)) (ne_of h D.hc (by intro z; cases z)) h))
  · exact .inl (.inr ⟨o, b _ _ (ne_of h D.hd (by intro z; cases z)) (ne_of h D.hc (by intro z; cases z)) h⟩)
  · exact .inr h
theorem But.board {cs : List Int} {n : Int} (b : But d c H H') (D : DeckAt H d c cs n) {p : Addr} {k : Int} {os : List Off} (h : BoardAt K H p k os) : BoardAt K H' p k os := by
  obtain ⟨u, vs, h1, h2, h3, h4⟩ := h
  refine ⟨u, vs, b.seqT D h1, b.seqT D h2, h3, fun i hi => ?_⟩
  obtain ⟨r, e1, e2⟩ := h4 i hi
  exact ⟨r, e1, b.seqT D e2⟩
theorem DeckAt.same {cs : List Int} {n : Int} (D : DeckAt H d c cs n) (s : Same H H') : DeckAt H' d c cs n := ⟨s _ _ D.hd, s _ _ D.hc, D.ne, D.nn, D.n0, D.len⟩
end
section
variable {P : Program} {w : World} {K : PySem.W.Frag} {mg : Str → Option Value} {base : Heap}
/-! ### _law_draw -/
def spDraw : Sp := fun vs H Q _ => ∃ (d c : Addr) (cs : List Int) (n m : Int), vs = [.ref d, .int m] ∧ DeckAt H d c cs n ∧ n ≤ 1000000 ∧ 1 ≤ m ∧ m ≤ 1000 ∧
  ∀ (H' : Hp) (cs' : List Int) (r : Int), But d c H H' → DeckAt H' d c cs' (n + 1) → 0 ≤ r → r < m → Q (.int r) H'
theorem ok_LawDraw (D : Dfn K mg "_law_draw" sLawDraw ["_law_deck_here", "_law_many"]) (mint : mg "int" = none) (mmax : mg "max" = none) (mlen : mg "len" = none) : Ok P w K mg base 1 "_law_draw" ["_law_deck_here", "_law_many"] spDraw := by
  refine ok_by D scLawDraw (fun vs H Q E h => ?_) (fun f cdv A outer s H vs Q E hr h => ?_)
  · obtain ⟨d, c, cs, n, m, rfl, _⟩ := h
    rfl
  · obtain ⟨d, c, cs, n, m, rfl, D, hn, hm1, hm2, q⟩ := h
    refine ⟨_, (pss_cons (ps_asg (pe_op op_add (pe_ix ix_list (pv 0) pe_int (fun _ _ => rfl)) pe_int) (pg_sub (pv 0) pe_int set_list))
    (pss_cons (ps_set (i := 2) scLawDraw.nd rfl (.inl rfl) (pe_op op_mod (pe_callTy call_int1 (by rfl) mint (by decide +kernel) (pa_cons (pe_ix ix_list (pv 0) pe_int (fun _ _ => rfl)) pa_nil)) (pe_callB (call_max2 rfl) (by rfl) mmax (by decide +kernel) (pa_cons pe_int (pa_cons (pe_callB call_len_seq (by rfl) mlen PySem.boot_len (pa_cons (pe_ix ix_list (pv 0) pe_int (fun _ _ => rfl)) pa_nil)) pa_nil)))))
    (pss_cons (ps_set (i := 3) scLawDraw.nd rfl (.inl rfl) (pe_ix ix_list (pe_op op_cat (pe_ix ix_list (pv 0) pe_int (fun _ _ => rfl)) (pe_lst (pa_cons pe_int pa_nil))) (pv 2) (fun _ _ => rfl)))
    (pss_cons (ps_if (pt_cmpR op_ge (pv 3) (pe_op op_pow pe_int pe_int) (nomark _)) (pss_cons (ps_asg (pe_op op_fdivW (pv 3) (pv 1)) (pg_sub (pe_ix ix_list (pv 0) pe_int (fun _ _ => rfl)) (pv 2) set_list))
    (pss_one (ps_ret (pe_op op_mod (pe_callTy call_int1 (by rfl) mint (by decide +kernel) (pa_cons (pv 3) pa_nil)) (pv 1))))) pss_nil)
    (pss_cons (ps_set (i := 4) scLawDraw.nd rfl (.inl rfl) (pe_op op_pow (pe_op op_add (pe_op op_add (pe_op op_mod (pe_callTy call_int1 (by rfl) mint (by decide +kernel) (pa_cons (pv 3) pa_nil)) pe_int) (pe_op op_mul pe_int (pe_ix ix_list (pv 0) pe_int (fun _ _ => rfl)))) pe_int) pe_int))
    (pss_one (ps_ret (pe_op op_mod (pe_callTy call_int1 (by rfl) mint (by decide +kernel) (pa_cons (pe_op op_mod (pe_callTy call_int1 (by rfl) mint (by decide +kernel) (pa_cons (pv 4) pa_nil)) pe_int) pa_nil)) (pv 1))))))))), ?_⟩
    have hn0 := D.n0
    have hlen := D.len
    -- deck[1] = deck[1] + 1
    refine ⟨_, rfl, d, _, 1, .int n, rfl, rfl, SqL.of D.hd, atI_nat (j := 1) rfl, n, 1, rfl, rfl, _, rfl, d, _, 1, 1, rfl, rfl, D.hd, rfl, ?_⟩
    have D1 : DeckAt (upd H d (.lst [.ref c, .int (n + 1)])) d c cs (n + 1) := ⟨upd_same, by rw [upd_ne D.ne]; exact D.hc, D.ne, D.nn, by omega, D.len⟩
    have b1 : But d c H (upd H d (.lst [.ref c, .int (n + 1)])) := But.wd
    show tSeq _ _ _ _ (upd H d (.lst [.ref c, .int (n + 1)]))
    generalize upd H d (.lst [.ref c, .int (n + 1)]) = H1 at *
    -- place
    refine ⟨_, rfl, d, _, 1, .int (n + 1), rfl, rfl, SqL.of D1.hd, atI_nat (j := 1) rfl, .inl ⟨_, rfl, ?_⟩⟩
    refine ⟨_, rfl, d, _, 0, .ref c, rfl, rfl, SqL.of D1.hd, atI_nat (j := 0) rfl, c, _, rfl, .inl (SqL.of D1.hc), _, _, rfl, _, _, rfl, rfl, ?_, ?_⟩
    · show (0 : Int) < if ((cs.map V.int).length : Int) > 1 then ((cs.map V.int).length : Int) else 1
      split <;> omega
    rw [List.length_map]
    obtain ⟨L, hL, hL1, hL2⟩ : ∃ L : Int, (if ((cs.length : Nat) : Int) > 1 then ((cs.length : Nat) : Int) else 1) = L ∧ 1 ≤ L ∧ (L ≤ cs.length ∨ (cs.length = 0 ∧ L = 1)) := by
      refine ⟨_, rfl, ?_, ?_⟩
      · split <;> omega
      · split <;> omega
    rw [hL]
    have hp0 := Int.emod_nonneg (n + 1) (show L ≠ 0 by omega)
    have hp1 := Int.emod_lt_of_pos (n + 1) (show 0 < L by omega)
    obtain ⟨j, ej⟩ : ∃ j : Nat, (n + 1) % L = j := ⟨((n + 1) % L).toNat, by omega⟩
    have hj : j < cs.length + 1 := by omega
    obtain ⟨v, hv, hv0, hvl⟩ : ∃ v : Int, (cs ++ [0])[j]? = some v ∧ 0 ≤ v ∧ (0 < v → j < cs.length) := by
      by_cases h : j < cs.length
      · exact ⟨cs[j], by rw [List.getElem?_append_left h, List.getElem?_eq_getElem h], D.nn _ (List.getElem_mem h), fun _ => h⟩
      · have e : j = cs.length := by omega
        subst e
        exact ⟨0, by rw [List.getElem?_append_right (Nat.le_refl _), Nat.sub_self]; rfl, Int.le_refl _, fun z => absurd z (by decide)⟩
    -- cell
    refine ⟨_, rfl, d, _, 0, .ref c, rfl, rfl, SqL.of D1.hd, atI_nat (j := 0) rfl, (by show 1 ≤ sizeLine; decide), fun z nz => ?_⟩
    have s1 := same_upd (o := .lst [.int 0]) nz
    refine ⟨c, z, cs.map V.int, [.int 0], rfl, rfl, s1 _ _ D1.hc, upd_same, ?_, fun z2 nz2 => ?_⟩
    · rw [List.length_map]
      show cs.length + 1 ≤ sizeLine
      rw [sizeLine_eq]
      omega
    have s2 := same_upd (o := .lst (cs.map V.int ++ [.int 0])) nz2
    have D2 := (D1.same s1).same s2
    have b2 : But d c H (upd (upd H1 z (.lst [.int 0])) z2 (.lst (cs.map V.int ++ [.int 0]))) := b1.trans (But.of (s1.trans s2))
    refine ⟨_, rfl, z2, _, (j : Int), .int v, rfl, congrArg V.int ej, SqL.of upd_same, atI_nat ?_, ?_⟩
    · have e : cs.map V.int ++ [V.int 0] = (cs ++ [0]).map V.int := by rw [List.map_append]; rfl
      rw [e, List.getElem?_map, hv]
      rfl
    show tSeq _ _ _ _ (upd (upd H1 z (.lst [.int 0])) z2 (.lst (cs.map V.int ++ [.int 0])))
    generalize upd (upd H1 z (.lst [.int 0])) z2 (.lst (cs.map V.int ++ [.int 0])) = H2 at *
    have pw : (10 : Int) ^ (18 : Int).toNat = 1000000000000000000 := by decide
    refine ⟨_, rfl, 10, 18, rfl, rfl, ⟨by decide, by decide, by decide⟩, _, _, rfl, rfl, _, rfl, ?_⟩
    by_cases hbig : (10 : Int) ^ (18 : Int).toNat ≤ v
    · rw [decide_eq_true hbig]
      have hjl := hvl (by omega)
      have hmod0 := Int.emod_nonneg v (show m ≠ 0 by omega)
      have hmod1 := Int.emod_lt_of_pos v (show 0 < m by omega)
      have D3 : DeckAt (upd H2 c (.lst ((cs.set j (v / m)).map V.int))) d c (cs.set j (v / m)) (n + 1) := by
        refine ⟨by rw [upd_ne D2.ne.symm]; exact D2.hd, upd_same, D.ne, fun x hx => ?_, by omega, by rw [List.length_set]; exact D.len⟩
        rcases List.mem_or_eq_of_mem_set hx with h | h
        · exact D.nn x h
        · rw [h]
          exact Int.ediv_nonneg hv0 (by omega)
      refine iteT ⟨_, rfl, _, rfl, v, m, rfl, rfl, wide_div (b := 64) (by omega) (by omega) (by decide) (by decide), _, rfl, d, _, 0, .ref c, rfl, rfl, SqL.of D2.hd, atI_nat (j := 0) rfl, _, rfl, c, _, (j : Int), j, rfl, congrArg V.int ej, D2.hc, ?_, ?_⟩
      · unfold ixN
        rw [List.length_map, if_pos (by omega), if_pos (by omega)]
        rfl
      · have e : (cs.map V.int).set j (V.int (v / m)) = (cs.set j (v / m)).map V.int := by rw [List.map_set]
        rw [e]
        refine ⟨_, rfl, .inl ⟨_, rfl, ?_⟩⟩
        exact ⟨_, rfl, v, m, rfl, rfl, (by show 0 < m; omega), q _ _ _ (b2.trans But.wc) D3 hmod0 hmod1⟩
    · rw [decide_eq_false hbig]
      have h1 := Int.emod_nonneg v (show (2147483587 : Int) ≠ 0 by decide)
      have h2 := Int.emod_lt_of_pos v (show (0 : Int) < 2147483587 by decide)
      refine iteF ⟨_, rfl, .inl ⟨v, rfl, ?_⟩⟩
      refine ⟨v, 2147483587, rfl, rfl, (by show (0 : Int) < 2147483587; decide), _, rfl, d, _, 1, .int (n + 1), rfl, rfl, SqL.of D2.hd, atI_nat (j := 1) rfl, 7919, n + 1, rfl, rfl, .inl ⟨by decide, by decide⟩, _, _, rfl, rfl, _, _, rfl, rfl, _, 5, rfl, rfl, ⟨by decide, by decide, by omega⟩, ?_⟩
      obtain ⟨mix, hmix⟩ : ∃ mix : Int, (v % 2147483587 + 7919 * (n + 1) + 1) ^ (5 : Int).toNat = mix := ⟨_, rfl⟩
      have h3 := Int.emod_nonneg (mix % 2147483647) (show m ≠ 0 by omega)
      have h4 := Int.emod_lt_of_pos (mix % 2147483647) (show 0 < m by omega)
      refine ⟨_, rfl, .inl ⟨mix, congrArg (fun x => [V.int x]) hmix, ?_⟩⟩
      refine ⟨mix, 2147483647, rfl, rfl, (by show (0 : Int) < 2147483647; decide), .inl ⟨_, rfl, ?_⟩⟩
      exact ⟨_, rfl, _, m, rfl, rfl, (by show 0 < m; omega), q _ _ _ b2 D2 h3 h4⟩
end
end Sm
end
section
set_option Elab.async false
set_option linter.all false
set_option maxRecDepth 100000
set_option maxHeartbeats 4000000
namespace Sm
open PySem PySem.Spec PyProof.Rows L2 SmR
/-! ### offers in the heap, sorted(set(..)) of them -/
def ol (o : Off) : List Int := [o.a, o.x, o.b, o.y]
def lo (l : List Int) : Off := ⟨l.getD 0 0, l.getD 1 0, l.getD 2 0, l.getD 3 0⟩
theorem lo_ol (o : Off) : lo (ol o) = o := rfl
def OffOk (k : Int) (o : Off) : Prop := 0 ≤ o.a ∧ o.a < k ∧ 0 ≤ o.b ∧ o.b < k ∧ 1 ≤ o.x ∧ o.x ≤ 30 ∧ 0 ≤ o.y ∧ o.y ≤ 30
def OffsAt (K : PySem.W.Frag) (H : Hp) (us : List V) (os : List Off) : Prop := us.length = os.length ∧ ∀ (i : Nat) (o : Off), os[i]? = some o → ∃ r, us[i]? = some (.ref r) ∧ SqT K H r (ov o)
theorem OffsAt.same {K : PySem.W.Frag} {H H' : Hp} {us : List V} {os : List Off} (e : Same H H') (h : OffsAt K H us os) : OffsAt K H' us os := ⟨h.1, fun i o q => let ⟨r, a, b⟩ := h.2 i o q; ⟨r, a, same_seqT e b⟩⟩
/-- a list of offers, by places: each with its tuple -/
def QsAt (K : PySem.W.Frag) (H : Hp) (qs : List (Addr × Off)) : Prop := ∀ q ∈ qs, SqT K H q.1 (ov q.2)
theorem QsAt.same {K : PySem.W.Frag} {H H' : Hp} {qs : List (Addr × Off)} (e : Same H H') (h : QsAt K H qs) : QsAt K H' qs := fun q m => same_seqT e (h q m)
theorem OffsAt.qs {K : PySem.W.Frag} {H : Hp} : ∀ {us : List V} {os : List Off}, OffsAt K H us os → ∃ qs : List (Addr × Off), us = qs.map (fun q => V.ref q.1) ∧ os = qs.map (·.2) ∧ QsAt K H qs
  | [], [], _ => ⟨[], rfl, rfl, fun q m => by cases m⟩
  | [], o :: os, h => by cases h.1
  | u :: us, [], h => by cases h.1
  | u :: us, o :: os, h => by
    obtain ⟨r, e, s⟩ := h.2 0 o rfl
    cases e
    obtain ⟨qs, e1, e2, e3⟩ := OffsAt.qs (us := us) (os := os) ⟨by simpa using h.1, fun i o q => h.2 (i + 1) o q⟩
    refine ⟨(r, o) :: qs, by rw [e1]; rfl, by rw [e2]; rfl, fun q m => ?_⟩
    rcases List.mem_cons.mp m with rfl | m
    · exact s
    · exact e3 q m
theorem QsAt.offs {K : PySem.W.Frag} {H : Hp} {qs : List (Addr × Off)} (h : QsAt K H qs) : OffsAt K H (qs.map fun q => V.ref q.1) (qs.map (·.2)) := by
  refine ⟨by rw [List.length_map, List.length_map], fun i o e => ?_⟩
  rw [List.getElem?_map] at e
  cases hq : qs[i]? with
  | none =>
    rw [hq] at e
    cases e
  | some q =>
    rw [hq] at e
    cases e
    exact ⟨q.1, by rw [List.getElem?_map, hq]; rfl, h q (List.mem_of_getElem? hq)⟩
theorem nodup_leG {α : Type} [DecidableEq α] : ∀ (l D : List α), l.Nodup → (∀ x ∈ l, x ∈ D) → l.length ≤ D.length
  | [], D, _, _ => Nat.zero_le _
  | a :: l, D, h, s => by
    obtain ⟨h1, h2⟩ := List.nodup_cons.mp h
    have ha : a ∈ D := s a (List.mem_cons_self ..)
    have ih := nodup_leG l (D.erase a) h2 fun x hx => (List.mem_erase_of_ne (fun z : x = a => h1 (by rw [← z]; exact hx))).mpr (s x (List.mem_cons_of_mem _ hx))
    rw [List.length_erase_of_mem ha] at ih
    have : 0 < D.length := List.length_pos_of_mem ha
    rw [List.length_cons]
    omega
/-- sorted(set(xs)) -/
theorem rd_sortset {K : PySem.W.Frag} {P : Program} {w : World} {H : Hp} {Q : VK} {l : Addr} {k : Int} {qs : List (Addr × Off)} (hk : k ≤ 4) (hl : SqL K H l (qs.map fun q => V.ref q.1)) (hq : QsAt K H qs) (ho : ∀ q ∈ qs, OffOk k q.2) (h16 : qs.length ≤ 16)
    (q : ∀ (H' : Hp) (p : Addr) (rs : List (Addr × Off)), Same H H' → H p = none → H' p = some (.lst (rs.map fun q => V.ref q.1)) → QsAt K H' rs → (∀ o, o ∈ rs.map (·.2) ↔ o ∈ qs.map (·.2)) → rs.length ≤ qs.length → Q (.ref p) H') :
    rSetOfT K P w [.ref l] H (fun x H1 => rSortedT K P w [x] H1 Q) := by
  refine ⟨l, qs.map fun q => (q.1, ol q.2), rfl, by rw [List.map_map]; exact hl, fun p hp => ?_, by rw [List.length_map]; omega, fun a L na hsub hall => ?_⟩
  · obtain ⟨q, hm, rfl⟩ := List.mem_map.mp hp
    exact hq q hm
  have sa : Same H (upd H a (SetTO P w a L)) := same_upd na
  have hL : ∀ p ∈ L, ∃ q ∈ qs, p = (q.1, ol q.2) := fun p hp => by
    obtain ⟨q, hm, e⟩ := List.mem_map.mp (hsub p hp)
    exact ⟨q, hm, e.symm⟩
  refine ⟨a, L, 4, 64, rfl, upd_same, fun p hp => ?_, by decide, fun p hp => ?_, fun L' p perm nd h64 _ np => ?_⟩
  · obtain ⟨q, hm, rfl⟩ := hL p hp
    exact same_seqT sa (hq q hm)
  · obtain ⟨q, hm, rfl⟩ := hL p hp
    have b := ho q hm
    unfold OffOk at b
    refine ⟨rfl, fun m hm' => ?_⟩
    have hm' : m ∈ [q.2.a, q.2.x, q.2.b, q.2.y] := hm'
    simp only [List.mem_cons, List.not_mem_nil, or_false] at hm'
    rcases hm' with rfl | rfl | rfl | rfl <;> omega
  · have hL' : ∀ p ∈ L', ∃ q ∈ qs, p = (q.1, ol q.2) := fun p hp => hL p (perm.mem_iff.mp hp)
    have sp := sa.trans (same_upd (o := .lst (L'.map fun q => V.ref q.1)) np)
    have e1 : (L'.map fun q => V.ref q.1) = (L'.map fun q => (q.1, lo q.2)).map fun q => V.ref q.1 := by rw [List.map_map]; rfl
    refine q _ p (L'.map fun q => (q.1, lo q.2)) sp (sa.free np) (by rw [upd_same, e1]) (fun r hr => ?_) (fun o => ?_) ?_
    · obtain ⟨z, hz, rfl⟩ := List.mem_map.mp hr
      obtain ⟨y, hm, rfl⟩ := hL' z hz
      exact same_seqT sp (hq y hm)
    · rw [List.map_map]
      constructor
      · intro h
        obtain ⟨z, hz, e⟩ := List.mem_map.mp h
        obtain ⟨y, hm, rfl⟩ := hL' z hz
        rw [← e]
        exact List.mem_map.mpr ⟨y, hm, rfl⟩
      · intro h
        obtain ⟨y, hm, e⟩ := List.mem_map.mp h
        have := hall (y.1, ol y.2) (List.mem_map.mpr ⟨y, hm, rfl⟩)
        obtain ⟨z, hz, ez⟩ := List.mem_map.mp this
        refine List.mem_map.mpr ⟨z, perm.mem_iff.mpr hz, ?_⟩
        show lo z.2 = o
        rw [ez, ← e]
        rfl
    · rw [List.length_map]
      have := nodup_leG (L'.map (·.2)) (qs.map fun q => ol q.2) nd fun x hx => by
        obtain ⟨z, hz, rfl⟩ := List.mem_map.mp hx
        obtain ⟨y, hm, rfl⟩ := hL' z hz
        exact List.mem_map.mpr ⟨y, hm, rfl⟩
      rw [List.length_map, List.length_map] at this
      exact this
/-- a board made of such offers -/
theorem board_of {K : PySem.W.Frag} {H : Hp} {r u : Addr} {k : Int} {rs : List (Addr × Off)} (h1 : SqT K H r [.int k, .ref u]) (h2 : SqT K H u (rs.map fun q => V.ref q.1)) (h3 : QsAt K H rs) : BoardAt K H r k (rs.map (·.2)) := by
  refine ⟨u, _, h1, h2, by rw [List.length_map, List.length_map], fun i hi => ?_⟩
  obtain ⟨p, e, s⟩ := h3.offs.2 i _ (off_some hi)
  exact ⟨p, e, s⟩
theorem osOk_of {k : Int} {os : List Off} (h2 : 2 ≤ k) (h4 : k ≤ 4) (hl : os.length ≤ 16) (h : ∀ o ∈ os, OffOk k o) : OsOk k os :=
  ⟨h2, h4, hl, fun i hi => h _ (List.mem_of_getElem? (off_some hi))⟩
section
variable {P : Program} {w : World} {K : PySem.W.Frag} {mg : Str → Option Value} {base : Heap}
/-! ### _law_deck -/
def spDeck (K : PySem.W.Frag) : Sp := fun vs H Q _ => ∃ (s : Addr) (ns : List Int), vs = [.ref s] ∧ SqL K H s (ns.map V.int) ∧ ns.length ≤ 63 ∧
  ∀ (H' : Hp) (d c : Addr) (cs : List Int), Same H H' → H d = none → H c = none → DeckAt H' d c cs 0 → Q (.ref d) H'
theorem cutV_ints (ns : List Int) (lo hi : Option Int) : ∃ ms : List Int, cutV (ns.map V.int) lo hi = ms.map V.int ∧ ms.length ≤ ns.length := by
  refine ⟨(ns.drop (HT.sIx (ns.map V.int).length 0 lo)).take (HT.sIx (ns.map V.int).length (ns.map V.int).length hi - HT.sIx (ns.map V.int).length 0 lo), ?_, ?_⟩
  · unfold cutV
    rw [List.map_take, List.map_drop]
  · rw [List.length_take, List.length_drop]
    omega
theorem ok_LawDeck (D : Dfn K mg "_law_deck" sLawDeck ["_law_script"]) (mabs : mg "abs" = none) : Ok P w K mg base 1 "_law_deck" ["_law_script"] (spDeck K) := by
  refine ok_by D scLawDeck (fun vs H Q E h => ?_) (fun f cdv A outer s H vs Q E hr h => ?_)
  · obtain ⟨s, ns, rfl, _⟩ := h
    rfl
  · obtain ⟨sc, ns, rfl, S, hl, q⟩ := h
    refine ⟨_, (pss_one (ps_ret (pe_lst (pa_cons (pe_lc (own := [("_law_cell", 1)]) (g := gName 1) (tt := tYes) rfl scLawDeck.nd (pi_list (pe_slice sl_list (pv 0) po_none (po_some pe_int))) (blkOk_by (N := nLawDeck) (sc := defScope sLawDeck) (by decide +kernel)) (fun _ _ _ _ _ => (pg_name (i := 1) scLawDeck.nd rfl (.inl rfl))) (fun _ _ _ _ _ => pts_nil) (fun _ _ _ _ _ => (pe_callB call_abs (by rfl) mabs (by decide +kernel) (pa_cons (pv 1) pa_nil)))) (pa_cons pe_int pa_nil))))), ?_⟩
    obtain ⟨ms, ems, hms⟩ := cutV_ints ns none (some 63)
    refine ⟨_, rfl, ?_⟩
    dsimp only [tNoPart]
    refine ⟨63, rfl, sc, _, rfl, S, fun z nz => ?_⟩
    rw [ems]
    have sz := same_upd (o := .lst (ms.map V.int)) nz
    refine ⟨z, rfl, ⟨_, SqL.of upd_same⟩, fun c nc => ?_⟩
    have szc := same_upd (o := .lst []) nc
    have hzc : z ≠ c := fun e => by
      rw [← e, upd_same] at nc
      cases nc
    refine lc_list (K := K) (a := z) (xs := ms.map V.int) (fun i H2 => Same H H2 ∧ H2 z = some (.lst (ms.map V.int)) ∧ ∃ cs : List Int, H2 c = some (.lst (cs.map V.int)) ∧ cs.length = i ∧ ∀ x ∈ cs, 0 ≤ x)
      ⟨sz.trans szc, szc _ _ upd_same, [], upd_same, rfl, fun x h => by cases h⟩ (fun i H2 _ h => SqL.of h.2.1) ?_ ?_
    · rintro i x H2 hx ⟨s2, ez, cs, ec, hcl, hnn⟩
      obtain ⟨hi, ex⟩ := List.getElem?_eq_some_iff.mp hx
      rw [List.length_map] at hi
      rw [List.getElem_map] at ex
      subst ex
      refine ⟨rfl, ?_⟩
      refine yesT ?_
      refine ⟨_, rfl, _, rfl, _, ec, ?_, same_put s2 (sz.free nc), ?_, cs ++ [if ms[i] < 0 then -ms[i] else ms[i]], ?_, by rw [List.length_append, List.length_singleton, hcl], fun y hy => ?_⟩
      · rw [List.length_map]
        exact small1000 (by omega)
      · rw [upd_ne hzc]
        exact ez
      · rw [upd_same, List.map_append]
        rfl
      · rcases List.mem_append.mp hy with hy | hy
        · exact hnn y hy
        · rw [List.mem_singleton.mp hy]
          split <;> omega
    · rintro H2 ⟨s2, ez, cs, ec, hcl, hnn⟩
      rw [List.length_map] at hcl
      refine ⟨(by show 2 ≤ sizeLine; decide), fun d nd => ?_⟩
      have sd := same_upd (o := .lst [.ref c, .int 0]) nd
      refine q _ d c cs (s2.trans sd) (s2.free nd) (sz.free nc) ⟨upd_same, sd _ _ ec, fun e => ?_, hnn, Int.le_refl _, by omega⟩
      rw [← e, ec] at nd
      cases nd
end
end Sm
end
section
set_option Elab.async false
set_option linter.all false
set_option maxRecDepth 100000
set_option maxHeartbeats 4000000
namespace Sm
open PySem PySem.Spec PyProof.Rows L2 SmR
section
variable {d c : Addr} {H H' : Hp} {K : PySem.W.Frag}
theorem But.put {F : Addr} {o : HO} (b : But d c H H') (h : H F = none) : But d c H (upd H' F o) := fun x p h1 h2 e => by
  rw [upd_ne (ne_of_none e h)]
  exact b x p h1 h2 e
theorem DeckAt.put {cs : List Int} {n : Int} {F : Addr} {o : HO} (D : DeckAt H d c cs n) (h1 : F ≠ d) (h2 : F ≠ c) : DeckAt (upd H F o) d c cs n := ⟨by rw [upd_ne h1.symm]; exact D.hd, by rw [upd_ne h2.symm]; exact D.hc, D.ne, D.nn, D.n0, D.len⟩
theorem QsAt.but {cs : List Int} {n : Int} {qs : List (Addr × Off)} (h : QsAt K H qs) (D : DeckAt H d c cs n) (b : But d c H H') : QsAt K H' qs := fun q m => b.seqT D (h q m)
theorem QsAt.wr {F : Addr} {ys zs : List V} {qs : List (Addr × Off)} (h : QsAt K H qs) (e : H F = some (.lst ys)) : QsAt K (upd H F (.lst zs)) qs := fun q m => seqT_wr (h q m) e
theorem QsAt.snoc {qs : List (Addr × Off)} {t : Addr} {o : Off} (h : QsAt K H qs) (s : SqT K H t (ov o)) : QsAt K H (qs ++ [(t, o)]) := fun q m => by
  rcases List.mem_append.mp m with m | m
  · exact h q m
  · rw [List.mem_singleton.mp m]
    exact s
theorem ok_snoc {k : Int} {qs : List (Addr × Off)} {t : Addr} {o : Off} (h : ∀ q ∈ qs, OffOk k q.2) (s : OffOk k o) : ∀ q ∈ qs ++ [(t, o)], OffOk k q.2 := fun q m => by
  rcases List.mem_append.mp m with m | m
  · exact h q m
  · rw [List.mem_singleton.mp m]
    exact s
end
section
variable {P : Program} {w : World} {K : PySem.W.Frag} {mg : Str → Option Value} {base : Heap}
/-! ### _law_board -/
def spLawBoard (K : PySem.W.Frag) : Sp := fun vs H Q _ => ∃ (d c : Addr) (cs : List Int) (n k many upto : Int), vs = [.ref d, .int k, .int many, .int upto] ∧ DeckAt H d c cs n ∧ n ≤ 100000 ∧ 2 ≤ k ∧ k ≤ 4 ∧ 0 ≤ many ∧ many ≤ 8 ∧ 1 ≤ upto ∧ upto ≤ 30 ∧
  ∀ (H' : Hp) (r u : Addr) (rs : List (Addr × Off)) (cs' : List Int) (n' : Int), But d c H H' → DeckAt H' d c cs' n' → n' ≤ n + 4 * many → SqT K H' r [.int k, .ref u] → SqT K H' u (rs.map fun q => V.ref q.1) → QsAt K H' rs → (∀ q ∈ rs, OffOk k q.2) →
    (rs.length : Int) ≤ many → Q (.ref r) H'
theorem ok_LawBoard (D : Dfn K mg "_law_board" sLawBoard ["_law_deck_here", "_law_kinds", "_law_many", "_law_upto"]) (GLawDraw : Ok P w K mg base 1 "_law_draw" ["_law_deck_here", "_law_many"] spDraw) (mint : mg "int" = none) (mrange : mg "range" = none)
    (mtuple : mg "tuple" = none) (msorted : mg "sorted" = none) (mset : mg "set" = none) : Ok P w K mg base 2 "_law_board" ["_law_deck_here", "_law_kinds", "_law_many", "_law_upto"] (spLawBoard K) := by
  refine ok_by D scLawBoard (fun vs H Q E h => ?_) (fun f cdv A outer s H vs Q E hr h => ?_)
  · obtain ⟨d, c, cs, n, k, many, upto, rfl, _⟩ := h
    rfl
  · obtain ⟨d, c, cs, n, k, many, upto, rfl, D0, hn, hk2, hk4, hm0, hm8, hu1, hu30, q⟩ := h
    refine ⟨_, (pss_cons (ps_set (i := 4) scLawBoard.nd rfl (.inl rfl) (pe_lst pa_nil))
    (pss_cons (ps_for PassesOwn.never rfl (pi_range1 rfl mrange (pa_cons (pv 2) pa_nil)) (pg_name (i := 5) scLawBoard.nd rfl (.inl rfl))
      (pss_cons (ps_set (i := 6) scLawBoard.nd rfl (.inl rfl) (pe_ok GLawDraw (hr.mono (by decide)) (by rfl) (pa_cons (pv 0) (pa_cons (pv 1) pa_nil))))
    (pss_cons (ps_set (i := 7) scLawBoard.nd rfl (.inl rfl) (pe_op op_mod (pe_callTy call_int1 (by rfl) mint (by decide +kernel) (pa_cons (pe_op op_add (pe_op op_add (pv 6) pe_int) (pe_ok GLawDraw (hr.mono (by decide)) (by rfl) (pa_cons (pv 0) (pa_cons (pe_op op_sub (pv 1) pe_int) pa_nil)))) pa_nil)) (pv 1)))
    (pss_one (ps_expr (pe_bm PySem.F.plainAttrs_list PySem.F.slot_list_append PySem.F.type_list_append mt_append (pv 4) (pa_cons (pe_tup (pa_cons (pv 6) (pa_cons (pe_op op_add pe_int (pe_ok GLawDraw (hr.mono (by decide)) (by rfl) (pa_cons (pv 0) (pa_cons (pv 3) pa_nil)))) (pa_cons (pv 7) (pa_cons (pe_ok GLawDraw (hr.mono (by decide)) (by rfl) (pa_cons (pv 0) (pa_cons (pe_op op_add (pv 3) pe_int) pa_nil))) pa_nil))))) pa_nil)))))))
    (pss_one (ps_ret (pe_tup (pa_cons (pv 1) (pa_cons (pe_callTy call_tuple_of (by rfl) mtuple (by decide +kernel) (pa_cons (pe_callB (cr_sortedT rfl) (by rfl) msorted (by decide +kernel) (pa_cons (pe_callTy (cr_setOfT rfl hr.units) (by rfl) mset (by decide +kernel) (pa_cons (pv 4) pa_nil)) pa_nil)) pa_nil)) pa_nil))))))), ?_⟩
    refine ⟨Nat.zero_le _, fun F nF => ?_⟩
    have zF := same_upd (o := .lst []) nF
    have hFd : F ≠ d := fun z => by
      rw [z, D0.hd] at nF
      cases nF
    have hFc : F ≠ c := fun z => by
      rw [z, D0.hc] at nF
      cases nF
    refine ⟨_, rfl, many, rfl, by omega, by omega, for_range (lo := 0) (n := many.toNat)
      (fun i σ H1 => ∃ x5 x6 x7 qs cs' n', σ = [some (.ref d), some (.int k), some (.int many), some (.int upto), some (.ref F), x5, x6, x7] ∧ But d c H H1 ∧ DeckAt H1 d c cs' n' ∧ n' ≤ n + 4 * i ∧ H1 F = some (.lst (qs.map fun q => V.ref q.1)) ∧ QsAt K H1 qs ∧ (∀ q ∈ qs, OffOk k q.2) ∧ qs.length ≤ i)
      ⟨none, none, none, [], cs, n, rfl, But.of zF, D0.same zF, by omega, upd_same, (fun q m => by cases m), (fun q m => by cases m), Nat.zero_le _⟩ ?_ ?_⟩
    · rintro i σ H1 hi ⟨x5, x6, x7, qs, cs1, n1, rfl, b1, D1, hn1, eF, hQ, hO, hl⟩
      refine ⟨_, rfl, _, rfl, d, c, cs1, n1, k, rfl, D1, by omega, by omega, by omega, fun H2 cs2 a b2 D2 ha0 ha1 => ?_⟩
      refine ⟨_, rfl, _, _, rfl, rfl, _, rfl, _, rfl, _, _, rfl, rfl, d, c, cs2, n1 + 1, k - 1, rfl, D2, by omega, by omega, by omega, fun H3 cs3 e b3 D3 he0 he1 => ?_⟩
      refine ⟨_, _, rfl, rfl, .inl ⟨_, rfl, ?_⟩⟩
      refine ⟨_, rfl, _, _, rfl, rfl, (by show 0 < k; omega), ?_⟩
      have hb0 := Int.emod_nonneg (a + 1 + e) (show k ≠ 0 by omega)
      have hb1 := Int.emod_lt_of_pos (a + 1 + e) (show 0 < k by omega)
      have eF3 := b3 _ _ hFd hFc (b2 _ _ hFd hFc eF)
      refine ⟨_, rfl, .inl ⟨rfl, _, SqL.of eF3⟩, _, rfl, _, rfl, _, rfl, d, c, cs3, n1 + 1 + 1, upto, rfl, D3, by omega, by omega, by omega, fun H4 cs4 x b4 D4 hx0 hx1 => ?_⟩
      refine ⟨_, _, rfl, rfl, _, rfl, _, rfl, _, rfl, _, _, rfl, rfl, d, c, cs4, n1 + 1 + 1 + 1, upto + 1, rfl, D4, by omega, by omega, by omega, fun H5 cs5 y b5 D5 hy0 hy1 => ?_⟩
      refine ⟨(by show 4 ≤ sizeLine; decide), fun t nt => ?_⟩
      have st := same_upd (o := .tup (ov ⟨a, 1 + x, (a + 1 + e) % k, y⟩)) nt
      have b15 := ((b2.trans b3).trans b4).trans b5
      have eF5 := b15 _ _ hFd hFc eF
      have D6 := D5.same st
      refine ⟨F, _, _, rfl, rfl, st _ _ eF5, ?_, ?_⟩
      · rw [List.length_map]
        exact small1000 (by omega)
      · have eF6 := st _ _ eF5
        refine ⟨_, _, _, qs ++ [(t, ⟨a, 1 + x, (a + 1 + e) % k, y⟩)], cs5, n1 + 1 + 1 + 1 + 1, rfl, ((b1.trans b15).trans (But.of st)).put nF, D6.put hFd hFc, by omega, ?_, ?_, ?_, ?_⟩
        · rw [upd_same, List.map_append]
          rfl
        · exact QsAt.wr (((hQ.but D1 b15).same st).snoc (.inl (.inl upd_same))) eF6
        · exact ok_snoc hO ⟨ha0, ha1, hb0, hb1, by show 1 ≤ 1 + x; omega, by show 1 + x ≤ 30; omega, hy0, by show y ≤ 30; omega⟩
        · rw [List.length_append, List.length_singleton]
          omega
    · rintro σ H1 ⟨x5, x6, x7, qs, cs1, n1, rfl, b1, D1, hn1, eF, hQ, hO, hl⟩
      refine ⟨_, rfl, _, rfl, ?_⟩
      dsimp only [tNil]
      refine rd_sortset (P := P) (w := w) hk4 (SqL.of eF) hQ hO (by omega) fun H2 p rs s2 np ep hR hRq hRl => ?_
      have hRO : ∀ q ∈ rs, OffOk k q.2 := fun q m => by
        obtain ⟨z, hz, e⟩ := List.mem_map.mp ((hRq q.2).mp (List.mem_map.mpr ⟨q, m, rfl⟩))
        rw [← e]
        exact hO z hz
      refine ⟨p, _, rfl, .inl ⟨SqL.of ep, fun u nu => ⟨(by show 2 ≤ sizeLine; decide), fun r nr => ?_⟩⟩⟩
      have su := same_upd (o := .tup (rs.map fun q => V.ref q.1)) nu
      have sr := same_upd (o := .tup [.int k, .ref u]) nr
      have s2r := (s2.trans su).trans sr
      exact q _ r u rs cs1 n1 (b1.trans (But.of s2r)) (D1.same s2r) (by omega) (.inl (.inl upd_same)) (.inl (.inl (sr _ _ upd_same))) (hR.same (su.trans sr)) hRO (by omega)
end
end Sm
end
section
set_option Elab.async false
set_option linter.all false
set_option maxRecDepth 100000
set_option maxHeartbeats 4000000
namespace Sm
open PySem PySem.Spec PyProof.Rows L2 SmR
/-! ### xs.index within a comprehension -/
theorem pe_idx {X : Cx} {K : PySem.W.Frag} {o e : Expr} {to : TE} {t : TA} {apos cpos : Pos} (h : X.K = K) (hu : X.A.units + 65 < cLine) (ho : PE X o to) (ha : PA X [e] t)
    (hbase : attributeBase o "index" X.env (eval o X.env) = eval o X.env := by rfl)
    (hfew : ((backTo cpos (starEach [e] X.env)).all (fun x => !x.1) && (backToKw cpos (keywordEach [] X.env)).all (fun x => x.1.isSome)
      && decide ([e].length + ([] : List Keyword).length + (if ([] : List Keyword).isEmpty then 0 else 1) < 30)) = true := by rfl)
    (hline : (apos.endLine == cpos.line) = true := by rfl) (hs : starEach [e] X.env = (false, eval e X.env) :: starEach [] X.env := by rfl) (hplain : (backTo cpos (starEach [] X.env)).any (·.1) = false := by rfl) :
    PE X (.Call (.Attribute o "index" apos) [e] [] cpos) (tBM K "list" (rIndexD K) to t) := by
  subst h
  exact pe_bm PySem.F.plainAttrs_list PySem.F.slot_list_index PySem.F.type_list_index (mt_indexD hu) ho ha hbase hfew hline hs hplain
/-! ### offers as data -/
def offD (o : Off) : PyData := .tuple [.int o.a, .int o.x, .int o.b, .int o.y]
theorem offD_shaped (o : Off) : SeqAt.shaped (offD o) = true := by
  have h2 : (offD o).depth ≤ 64 := by simp [offD, PyData.depth, PyData.depthAll]
  show ((offD o).canLay0 && decide ((offD o).depth ≤ 64)) = true
  rw [Bool.and_eq_true]
  exact ⟨by simp [offD, PyData.canLay0, PyData.canLayAll0], decide_eq_true h2⟩
theorem offDs_lay : ∀ os : List Off, PyData.canLayAll0 (os.map offD) = true
  | [] => by simp [PyData.canLayAll0]
  | o :: os => by simp [PyData.canLayAll0, PyData.canLay0, offD, offDs_lay os]
theorem offDs_depth : ∀ os : List Off, PyData.depthAll (os.map offD) ≤ 1
  | [] => by simp [PyData.depthAll]
  | o :: os => by
    have h := offDs_depth os
    have h2 : (offD o).depth ≤ 1 := by simp [offD, PyData.depth, PyData.depthAll]
    simp only [List.map_cons, PyData.depthAll]
    omega
theorem offDs_shaped (os : List Off) : SeqAt.shaped (.list (os.map offD)) = true := by
  have h1 := offDs_depth os
  have h2 : PyData.depth (.list (os.map offD)) ≤ 64 := by
    simp only [PyData.depth]
    omega
  show (PyData.canLay0 (.list (os.map offD)) && decide (PyData.depth (.list (os.map offD)) ≤ 64)) = true
  rw [Bool.and_eq_true]
  exact ⟨by simp only [PyData.canLay0]; exact offDs_lay os, decide_eq_true h2⟩
theorem offD_eqv (o p : Off) : PyData.eqv (offD o) (offD p) = decide (o = p) := by
  obtain ⟨a, x, b, y⟩ := o
  obtain ⟨a', x', b', y'⟩ := p
  have e : PyData.eqv (offD ⟨a, x, b, y⟩) (offD ⟨a', x', b', y'⟩) = ((a == a') && ((x == x') && ((b == b') && ((y == y') && true)))) := by simp only [offD, PyData.eqv, PyData.eqvAll]
  rw [e]
  by_cases h : (⟨a, x, b, y⟩ : Off) = ⟨a', x', b', y'⟩
  · cases h
    simp
  · rw [decide_eq_false h]
    by_cases h1 : a = a'
    · by_cases h2 : x = x'
      · by_cases h3 : b = b'
        · by_cases h4 : y = y'
          · exact absurd (by rw [h1, h2, h3, h4]) h
          · simp [h4]
        · simp [h3]
      · simp [h2]
    · simp [h1]
theorem dp_qs {K : PySem.W.Frag} {H : Hp} : ∀ {qs : List (Addr × Off)}, QsAt K H qs → DpAll K H (qs.map fun q => V.ref q.1) ((qs.map (·.2)).map offD)
  | [], _ => .nil
  | q :: qs, h => .cons (.tup (h q (List.mem_cons_self ..)) (.cons (.int _) (.cons (.int _) (.cons (.int _) (.cons (.int _) .nil))))) (dp_qs fun r m => h r (List.mem_cons_of_mem _ m))
section
variable {P : Program} {w : World} {K : PySem.W.Frag} {mg : Str → Option Value} {base : Heap}
/-! ### _law_ring -/
def spRing (K : PySem.W.Frag) : Sp := fun vs H Q _ => ∃ (d c : Addr) (cs : List Int) (n k : Int), vs = [.ref d, .int k] ∧ DeckAt H d c cs n ∧ n ≤ 50000 ∧ 2 ≤ k ∧ k ≤ 4 ∧
  ∀ (H' : Hp) (r b : Addr) (x : V) (cs' : List Int) (n' : Int) (os : List Off), But d c H H' → DeckAt H' d c cs' n' → n' ≤ n + 100 → SqT K H' r [.ref b, x] → BoardAt K H' b k os → OsOk k os → Q (.ref r) H'
theorem ok_LawRing (D : Dfn K mg "_law_ring" sLawRing ["_law_deck_here", "_law_kinds"]) (GLawDraw : Ok P w K mg base 1 "_law_draw" ["_law_deck_here", "_law_many"] spDraw)
    (GLawBoard : Ok P w K mg base 2 "_law_board" ["_law_deck_here", "_law_kinds", "_law_many", "_law_upto"] (spLawBoard K)) (mint : mg "int" = none) (mmax : mg "max" = none) (mrange : mg "range" = none)
    (mtuple : mg "tuple" = none) (mlist : mg "list" = none) (msorted : mg "sorted" = none) (mset : mg "set" = none) : Ok P w K mg base 3 "_law_ring" ["_law_deck_here", "_law_kinds"] (spRing K) := by
  refine ok_by D scLawRing (fun vs H Q E h => ?_) (fun f cdv A outer s H vs Q E hr h => ?_)
  · obtain ⟨d, c, cs, n, k, rfl, _⟩ := h
    rfl
  · obtain ⟨d, c, cs, n, k, rfl, D0, hn, hk2, hk4, q⟩ := h
    have hu65 : (A.deeper (envOfC "_law_ring" (defScope sLawRing) s.heap.objs.size f cdv)).units + 65 < cLine := by
      have := hr.un
      omega
    refine ⟨_, (pss_cons (ps_set (i := 2) scLawRing.nd rfl (.inl rfl) (pe_lst pa_nil))
    (pss_cons (ps_for PassesOwn.never rfl (pi_range1 rfl mrange (pa_cons (pv 1) pa_nil)) (pg_name (i := 3) scLawRing.nd rfl (.inl rfl))
      (pss_cons (ps_set (i := 4) scLawRing.nd rfl (.inl rfl) (pe_op op_add pe_int (pe_ok GLawDraw (hr.mono (by decide)) (by rfl) (pa_cons (pv 0) (pa_cons pe_int pa_nil)))))
    (pss_one (ps_expr (pe_bm PySem.F.plainAttrs_list PySem.F.slot_list_append PySem.F.type_list_append mt_append (pv 2) (pa_cons (pe_tup (pa_cons (pv 3) (pa_cons (pv 4) (pa_cons (pe_op op_mod (pe_callTy call_int1 (by rfl) mint (by decide +kernel) (pa_cons (pe_op op_add (pv 3) pe_int) pa_nil)) (pv 1)) (pa_cons (pe_callB (call_max2 rfl) (by rfl) mmax (by decide +kernel) (pa_cons pe_int (pa_cons (pe_op op_add (pe_op op_sub (pv 4) pe_int) (pe_ok GLawDraw (hr.mono (by decide)) (by rfl) (pa_cons (pv 0) (pa_cons pe_int pa_nil)))) pa_nil))) pa_nil))))) pa_nil))))))
    (pss_cons (ps_set (i := 5) scLawRing.nd rfl (.inr rfl) (pe_callB (cr_sortedT rfl) (by rfl) msorted (by decide +kernel) (pa_cons (pe_callTy (cr_setOfT rfl hr.units) (by rfl) mset (by decide +kernel) (pa_cons (pe_op op_cat (pv 2) (pe_callTy call_list_of (by rfl) mlist (by decide +kernel) (pa_cons (pe_ix ix_tup (pe_ok GLawBoard (hr.mono (by decide)) (by rfl) (pa_cons (pv 0) (pa_cons (pv 1) (pa_cons (pe_ok GLawDraw (hr.mono (by decide)) (by rfl) (pa_cons (pv 0) (pa_cons pe_int pa_nil))) (pa_cons pe_int pa_nil))))) pe_int (fun _ _ => rfl)) pa_nil))) pa_nil)) pa_nil)))
    (pss_one (ps_ret (pe_tup (pa_cons (pe_tup (pa_cons (pv 1) (pa_cons (pe_callTy call_tuple_of (by rfl) mtuple (by decide +kernel) (pa_cons (pv 5) pa_nil)) pa_nil))) (pa_cons (pe_callTy call_tuple_of (by rfl) mtuple (by decide +kernel) (pa_cons (pe_lc (own := [("_law_offer", 6)]) (g := gName 6) (tt := tYes) rfl scLawRing.nd (pi_list (pv 2)) (blkOk_by (N := nLawRing) (sc := defScope sLawRing) (by decide +kernel)) (fun _ _ _ _ _ => (pg_name (i := 6) scLawRing.nd rfl (.inl rfl))) (fun _ _ _ _ _ => pts_nil) (fun _ _ _ _ _ => (pe_idx (K := K) rfl hu65 (pv 5) (pa_cons (pv 6) pa_nil)))) pa_nil)) pa_nil)))))))), ?_⟩
    refine ⟨Nat.zero_le _, fun F nF => ?_⟩
    have zF := same_upd (o := .lst []) nF
    have hFd : F ≠ d := fun z => by
      rw [z, D0.hd] at nF
      cases nF
    have hFc : F ≠ c := fun z => by
      rw [z, D0.hc] at nF
      cases nF
    refine ⟨_, rfl, k, rfl, by omega, by omega, for_range (lo := 0) (n := k.toNat)
      (fun i σ H1 => ∃ x3 x4 qs cs' n', σ = [some (.ref d), some (.int k), some (.ref F), x3, x4, none, none] ∧ But d c H H1 ∧ DeckAt H1 d c cs' n' ∧ n' ≤ n + 2 * i ∧ H1 F = some (.lst (qs.map fun q => V.ref q.1)) ∧ QsAt K H1 qs ∧ (∀ q ∈ qs, OffOk k q.2) ∧ qs.length = i)
      ⟨none, none, [], cs, n, rfl, But.of zF, D0.same zF, by omega, upd_same, (fun q m => by cases m), (fun q m => by cases m), rfl⟩ ?_ ?_⟩
    · rintro i σ H1 hi ⟨x3, x4, qs, cs1, n1, rfl, b1, D1, hn1, eF, hQ, hO, hl⟩
      refine ⟨_, rfl, d, c, cs1, n1, 6, rfl, D1, by omega, by decide, by decide, fun H2 cs2 x b2 D2 hx0 hx1 => ⟨1, x, rfl, rfl, ?_⟩⟩
      have eF2 := b2 _ _ hFd hFc eF
      have hb0 := Int.emod_nonneg (0 + (i : Int) + 1) (show k ≠ 0 by omega)
      have hb1 := Int.emod_lt_of_pos (0 + (i : Int) + 1) (show 0 < k by omega)
      refine ⟨_, rfl, .inl ⟨rfl, _, SqL.of eF2⟩, _, rfl, _, rfl, _, rfl, _, _, rfl, rfl, .inl ⟨_, rfl, ?_⟩⟩
      refine ⟨_, rfl, _, _, rfl, rfl, (by show 0 < k; omega), ?_⟩
      refine ⟨_, rfl, _, _, rfl, rfl, _, rfl, d, c, cs2, n1 + 1, 4, rfl, D2, by omega, by decide, by decide, fun H3 cs3 e b3 D3 he0 he1 => ?_⟩
      refine ⟨_, _, rfl, rfl, 0, _, rfl, ?_⟩
      obtain ⟨y, hy, hy0, hy1⟩ : ∃ y : Int, (if 1 + x - 1 + e > 0 then 1 + x - 1 + e else 0) = y ∧ 0 ≤ y ∧ y ≤ 30 := ⟨_, rfl, by split <;> omega, by split <;> omega⟩
      rw [hy]
      refine ⟨(by show 4 ≤ sizeLine; decide), fun t nt => ?_⟩
      have st := same_upd (o := .tup (ov ⟨0 + (i : Int), 1 + x, (0 + (i : Int) + 1) % k, y⟩)) nt
      have b13 := b2.trans b3
      have eF3 := b13 _ _ hFd hFc eF
      have D4 := D3.same st
      have eF4 := st _ _ eF3
      refine ⟨F, _, _, rfl, rfl, eF4, ?_, ?_⟩
      · rw [List.length_map]
        exact small1000 (by omega)
      · refine ⟨_, _, qs ++ [(t, ⟨0 + (i : Int), 1 + x, (0 + (i : Int) + 1) % k, y⟩)], cs3, n1 + 1 + 1, rfl, ((b1.trans b13).trans (But.of st)).put nF, D4.put hFd hFc, by omega, ?_, ?_, ?_, ?_⟩
        · rw [upd_same, List.map_append]
          rfl
        · exact QsAt.wr (((hQ.but D1 b13).same st).snoc (.inl (.inl upd_same))) eF4
        · exact ok_snoc hO ⟨by show 0 ≤ 0 + (i : Int); omega, by show 0 + (i : Int) < k; omega, hb0, hb1, by show 1 ≤ 1 + x; omega, by show 1 + x ≤ 30; omega, hy0, hy1⟩
        · rw [List.length_append, List.length_singleton, hl]
    · rintro σ H1 ⟨x3, x4, qs, cs1, n1, rfl, b1, D1, hn1, eF, hQ, hO, hl⟩
      -- offers
      refine ⟨_, rfl, _, rfl, _, rfl, _, rfl, d, c, cs1, n1, 4, rfl, D1, by omega, by decide, by decide, fun H2 cs2 m b2 D2 hm0 hm1 => ?_⟩
      refine ⟨d, c, cs2, n1 + 1, k, m, 8, rfl, D2, by omega, hk2, hk4, hm0, by omega, by decide, by decide, fun H3 r u rs cs3 n3 b3 D3 hn3 S1 S2 hR hRO hRl => ?_⟩
      have b13 := b2.trans b3
      have eF3 := b13 _ _ hFd hFc eF
      have hQ3 := hQ.but D1 b13
      refine ⟨r, _, 1, .ref u, rfl, rfl, S1, atI_nat (j := 1) rfl, u, _, rfl, .inr S2, fun l nl => ?_⟩
      have sl := same_upd (o := .lst (rs.map fun q => V.ref q.1)) nl
      refine ⟨F, l, _, _, rfl, rfl, sl _ _ eF3, upd_same, ?_, fun g ng => ?_⟩
      · rw [List.length_map, List.length_map, sizeLine_eq]
        omega
      rw [← List.map_append]
      have sg := same_upd (o := .lst ((qs ++ rs).map fun q => V.ref q.1)) ng
      have hQR : QsAt K (upd (upd H3 l (.lst (rs.map fun q => V.ref q.1))) g (.lst ((qs ++ rs).map fun q => V.ref q.1))) (qs ++ rs) := fun q hq => by
        rcases List.mem_append.mp hq with hq | hq
        · exact same_seqT (sl.trans sg) (hQ3 q hq)
        · exact same_seqT (sl.trans sg) (hR q hq)
      have hQO : ∀ q ∈ qs ++ rs, OffOk k q.2 := fun q hq => by
        rcases List.mem_append.mp hq with hq | hq
        · exact hO q hq
        · exact hRO q hq
      dsimp only [tNil]
      refine rd_sortset (P := P) (w := w) hk4 (SqL.of upd_same) hQR hQO (by rw [List.length_append]; omega) fun H4 p ts s4 np ep hT hTq hTl => ?_
      have s34 := (sl.trans sg).trans s4
      have eF4 := s34 _ _ eF3
      have hQ4 := hQ3.same s34
      have hTO : ∀ q ∈ ts, OffOk k q.2 := fun q m => by
        obtain ⟨z, hz, e⟩ := List.mem_map.mp ((hTq q.2).mp (List.mem_map.mpr ⟨q, m, rfl⟩))
        rw [← e]
        exact hQO z hz
      rw [List.length_append] at hTl
      -- return
      refine ⟨_, rfl, _, rfl, p, _, rfl, .inl ⟨SqL.of ep, fun u2 nu2 => ⟨(by show 2 ≤ sizeLine; decide), fun b nb => ?_⟩⟩⟩
      have su2 := same_upd (o := .tup (ts.map fun q => V.ref q.1)) nu2
      have sb := same_upd (o := .tup [.int k, .ref u2]) nb
      have s45 := su2.trans sb
      refine ⟨_, rfl, F, rfl, ⟨_, SqL.of (s45 _ _ eF4)⟩, fun L nL => ?_⟩
      have sL := same_upd (o := .lst []) nL
      have SBu := sb _ _ (upd_same (H := H4) (a := u2) (o := .tup (ts.map fun q => V.ref q.1)))
      have SBb := upd_same (H := upd H4 u2 (.tup (ts.map fun q => V.ref q.1))) (a := b) (o := .tup [.int k, .ref u2])
      have hT5 := hT.same s45
      have hQ5 := hQ4.same s45
      have ep5 := s45 _ _ ep
      have eF5 := s45 _ _ eF4
      have D5 := (D3.same s34).same s45
      have b5 := (b1.trans b13).trans ((But.of s34).trans (But.of s45))
      generalize upd (upd H4 u2 (.tup (ts.map fun q => V.ref q.1))) b (.tup [.int k, .ref u2]) = H5 at *
      refine lc_list (K := K) (a := F) (xs := qs.map fun q => V.ref q.1) (fun i H6 => Same H5 H6 ∧ ∃ ys, H6 L = some (.lst ys) ∧ ys.length = i)
        ⟨sL, [], upd_same, rfl⟩ (fun i H6 _ h => SqL.of (h.1 _ _ eF5)) ?_ ?_
      · rintro i x H6 hx ⟨s6, ys, eL, hyl⟩
        obtain ⟨hi, ex⟩ := List.getElem?_eq_some_iff.mp hx
        rw [List.length_map] at hi
        rw [List.getElem_map] at ex
        subst ex
        have hmem := List.getElem_mem hi
        have hin : qs[i].2 ∈ ts.map (·.2) := (hTq _).mpr (List.mem_map.mpr ⟨qs[i], List.mem_append_left _ hmem, rfl⟩)
        obtain ⟨j0, hj0, ej0⟩ := List.getElem_of_mem hin
        obtain ⟨j, _, hpj, hmin⟩ := st_least (p := fun j => (ts.map (·.2))[j]? = some qs[i].2) j0 (by rw [List.getElem?_eq_getElem hj0, ej0])
        have hT6 := hT5.same s6
        have hQ6 := hQ5.same s6
        refine ⟨rfl, ?_⟩
        refine yesT ?_
        refine ⟨_, rfl, .inl ⟨rfl, _, SqL.of (s6 _ _ ep5)⟩, _, rfl, p, _, offD qs[i].2, (ts.map Prod.snd).map offD, j, offD qs[i].2, rfl, rfl, .lst (SqL.of (s6 _ _ ep5)) (dp_qs hT6), .tup (hQ6 _ hmem) (.cons (.int _) (.cons (.int _) (.cons (.int _) (.cons (.int _) .nil)))),
          offDs_shaped _, offD_shaped _, by rw [List.getElem?_map, hpj]; rfl, by rw [offD_eqv, decide_eq_true rfl], fun m z' hm hz' => ?_, _, eL, ?_, same_put s6 nL, _, upd_same, by rw [List.length_append, List.length_singleton, hyl]⟩
        · rw [List.getElem?_map] at hz'
          cases hts : (ts.map (·.2))[m]? with
          | none =>
            rw [hts] at hz'
            cases hz'
          | some o =>
            rw [hts] at hz'
            cases hz'
            rw [offD_eqv]
            exact decide_eq_false fun e => hmin m hm (by rw [hts, e])
        · exact small1000 (by omega)
      · rintro H6 ⟨s6, ys, eL, hyl⟩
        refine ⟨L, _, rfl, .inl ⟨SqL.of eL, fun v nv' => ⟨(by show 2 ≤ sizeLine; decide), fun r2 nr2 => ?_⟩⟩⟩
        have sv := same_upd (o := .tup ys) nv'
        have sr2 := same_upd (o := .tup [.ref b, .ref v]) nr2
        have s6r := (s6.trans sv).trans sr2
        exact q _ r2 b (.ref v) cs3 n3 (ts.map Prod.snd) (b5.trans (But.of s6r)) (D5.same s6r) (by omega) (.inl (.inl upd_same)) (board_of (.inl (.inl (s6r _ _ SBb))) (.inl (.inl (s6r _ _ SBu))) (hT5.same s6r))
          (osOk_of hk2 hk4 (by rw [List.length_map]; omega) fun o ho => by
            obtain ⟨z, hz, e⟩ := List.mem_map.mp ho
            rw [← e]
            exact hTO z hz)
end
end Sm
end
section
set_option Elab.async false
set_option linter.all false
set_option maxRecDepth 100000
set_option maxHeartbeats 4000000
namespace Sm
open PySem PySem.Spec PyProof.Rows L2 SmR
def Fair (os : List Off) : Prop := ∃ P : Int → Int, (∀ c, 0 < P c) ∧ ∀ o ∈ os, P o.b * o.y ≤ P o.a * o.x
theorem Fair.nogain {k : Int} {os : List Off} (ok : OsOk k os) (h : Fair os) (c : Int) : NoGain os c := by
  obtain ⟨P, hp, hf⟩ := h
  exact fair_nogain hp ok (fun i hi => hf _ (List.mem_of_getElem? (off_some hi))) c
section
variable {P : Program} {w : World} {K : PySem.W.Frag} {mg : Str → Option Value} {base : Heap}
/-! ### _law_fair -/
def spFair (K : PySem.W.Frag) : Sp := fun vs H Q _ => ∃ (d c : Addr) (cs : List Int) (n k many upto : Int), vs = [.ref d, .int k, .int many, .int upto] ∧ DeckAt H d c cs n ∧ n ≤ 50000 ∧ 2 ≤ k ∧ k ≤ 4 ∧ 0 ≤ many ∧ many ≤ 8 ∧ 1 ≤ upto ∧ upto ≤ 30 ∧
  ∀ (H' : Hp) (r : Addr) (cs' : List Int) (n' : Int) (os : List Off), But d c H H' → DeckAt H' d c cs' n' → n' ≤ n + 100 → BoardAt K H' r k os → OsOk k os → Fair os → Q (.ref r) H'
theorem ok_LawFair (D : Dfn K mg "_law_fair" sLawFair ["_law_deck_here", "_law_kinds", "_law_many", "_law_upto"]) (GLawDraw : Ok P w K mg base 1 "_law_draw" ["_law_deck_here", "_law_many"] spDraw) (mint : mg "int" = none) (mrange : mg "range" = none)
    (mtuple : mg "tuple" = none) (msorted : mg "sorted" = none) (mset : mg "set" = none) : Ok P w K mg base 2 "_law_fair" ["_law_deck_here", "_law_kinds", "_law_many", "_law_upto"] (spFair K) := by
  refine ok_by D scLawFair (fun vs H Q E h => ?_) (fun f cdv A outer s H vs Q E hr h => ?_)
  · obtain ⟨d, c, cs, n, k, many, upto, rfl, _⟩ := h
    rfl
  · obtain ⟨d, c, cs, n, k, many, upto, rfl, D0, hn, hk2, hk4, hm0, hm8, hu1, hu30, q⟩ := h
    refine ⟨_, (pss_cons (ps_setLc (i := 4) (own := [("_law_kind", 11)]) (g := gName 11) (tt := tYes) rfl scLawFair.nd rfl rfl (sw_true rfl rfl rfl (by decide +kernel)) (pi_range1 rfl mrange (pa_cons (pv 1) pa_nil)) (blkOk_by (N := nLawFair) (sc := defScope sLawFair) (by decide +kernel)) (fun _ _ _ _ _ => (pg_name (i := 11) scLawFair.nd rfl (.inl rfl))) (fun _ _ _ _ _ => pts_nil) (fun _ _ _ _ _ => (pe_op op_add pe_int (pe_ok GLawDraw (hr.mono (by decide)) (by rfl) (pa_cons (pv 0) (pa_cons pe_int pa_nil))))))
    (pss_cons (ps_set (i := 5) scLawFair.nd rfl (.inl rfl) (pe_lst pa_nil))
    (pss_cons (ps_for PassesOwn.never rfl (pi_range1 rfl mrange (pa_cons (pv 2) pa_nil)) (pg_name (i := 6) scLawFair.nd rfl (.inl rfl))
      (pss_cons (ps_set (i := 7) scLawFair.nd rfl (.inl rfl) (pe_ok GLawDraw (hr.mono (by decide)) (by rfl) (pa_cons (pv 0) (pa_cons (pv 1) pa_nil))))
    (pss_cons (ps_set (i := 8) scLawFair.nd rfl (.inl rfl) (pe_op op_mod (pe_callTy call_int1 (by rfl) mint (by decide +kernel) (pa_cons (pe_op op_add (pe_op op_add (pv 7) pe_int) (pe_ok GLawDraw (hr.mono (by decide)) (by rfl) (pa_cons (pv 0) (pa_cons (pe_op op_sub (pv 1) pe_int) pa_nil)))) pa_nil)) (pv 1)))
    (pss_cons (ps_set (i := 9) scLawFair.nd rfl (.inl rfl) (pe_op op_add pe_int (pe_ok GLawDraw (hr.mono (by decide)) (by rfl) (pa_cons (pv 0) (pa_cons (pv 3) pa_nil)))))
    (pss_cons (ps_set (i := 10) scLawFair.nd rfl (.inl rfl) (pe_op op_sub (pe_op op_fdivW (pe_op op_mul (pe_ix ix_list (pv 4) (pv 7) (fun _ _ => rfl)) (pv 9)) (pe_ix ix_list (pv 4) (pv 8) (fun _ _ => rfl))) (pe_ix ix_list (pe_lst (pa_cons pe_int (pa_cons pe_int (pa_cons pe_int (pa_cons pe_int (pa_cons pe_int pa_nil)))))) (pe_ok GLawDraw (hr.mono (by decide)) (by rfl) (pa_cons (pv 0) (pa_cons pe_int pa_nil))) (fun _ _ => rfl))))
    (pss_one (ps_if (pt_chain op_le op_le pe_int (pv 10) (pv 3)) (pss_one (ps_expr (pe_bm PySem.F.plainAttrs_list PySem.F.slot_list_append PySem.F.type_list_append mt_append (pv 5) (pa_cons (pe_tup (pa_cons (pv 7) (pa_cons (pv 9) (pa_cons (pv 8) (pa_cons (pv 10) pa_nil))))) pa_nil)))) pss_nil)))))))
    (pss_one (ps_ret (pe_tup (pa_cons (pv 1) (pa_cons (pe_callTy call_tuple_of (by rfl) mtuple (by decide +kernel) (pa_cons (pe_callB (cr_sortedT rfl) (by rfl) msorted (by decide +kernel) (pa_cons (pe_callTy (cr_setOfT rfl hr.units) (by rfl) mset (by decide +kernel) (pa_cons (pv 5) pa_nil)) pa_nil)) pa_nil)) pa_nil)))))))), ?_⟩
    -- prices
    refine ⟨_, rfl, k, rfl, by omega, by omega, fun L nL => ?_⟩
    have zL := same_upd (o := .lst []) nL
    have hLd : L ≠ d := fun z => by
      rw [z, D0.hd] at nL
      cases nL
    have hLc : L ≠ c := fun z => by
      rw [z, D0.hc] at nL
      cases nL
    refine lc_range (lo := 0) (n := k.toNat) (fun i H1 => ∃ cs' n' ps, But d c H H1 ∧ DeckAt H1 d c cs' n' ∧ n' ≤ n + i ∧ H1 L = some (.lst (ps.map V.int)) ∧ ps.length = i ∧ ∀ x ∈ ps, 1 ≤ x ∧ x ≤ 6)
      ⟨cs, n, [], But.of zL, D0.same zL, by omega, upd_same, rfl, fun x h => by cases h⟩ ?_ ?_
    · rintro i H1 hi ⟨cs1, n1, ps, b1, D1, hn1, eL, hpl, hps⟩
      refine ⟨rfl, ?_⟩
      refine yesT ?_
      refine ⟨_, rfl, d, c, cs1, n1, 6, rfl, D1, by omega, by decide, by decide, fun H2 cs2 x b2 D2 hx0 hx1 => ⟨1, x, rfl, rfl, ?_⟩⟩
      refine ⟨_, b2 _ _ hLd hLc eL, ?_, cs2, n1 + 1, ps ++ [1 + x], (b1.trans b2).put nL, D2.put hLd hLc, by omega, ?_, by rw [List.length_append, List.length_singleton, hpl], fun y hy => ?_⟩
      · rw [List.length_map]
        exact small1000 (by omega)
      · rw [upd_same, List.map_append]
        rfl
      · rcases List.mem_append.mp hy with hy | hy
        · exact hps y hy
        · rw [List.mem_singleton.mp hy]
          omega
    · rintro H1 ⟨cs1, n1, ps, b1, D1, hn1, eL, hpl, hps⟩
      have hP : ∀ a : Int, 0 ≤ a → a < k → ∃ x, ps[a.toNat]? = some x ∧ 1 ≤ x ∧ x ≤ 6 ∧ ps.getD a.toNat 1 = x := fun a h0 h1 => by
        have ha : a.toNat < ps.length := by omega
        have e : ps[a.toNat]? = some ps[a.toNat] := List.getElem?_eq_getElem ha
        refine ⟨_, e, (hps _ (List.getElem_mem ha)).1, (hps _ (List.getElem_mem ha)).2, ?_⟩
        rw [List.getD_eq_getElem?_getD, e]
        rfl
      have hpos : ∀ a : Int, 0 < ps.getD a.toNat 1 := fun a => by
        rw [List.getD_eq_getElem?_getD]
        cases e : ps[a.toNat]? with
        | none => decide
        | some x =>
          have := (hps x (List.mem_of_getElem? e)).1
          show 0 < x
          omega
      have hatP : ∀ (a x : Int), 0 ≤ a → ps[a.toNat]? = some x → atI (ps.map V.int) a = some (.int x) := fun a x h0 e => at_of (j := a.toNat) (by omega) (by rw [List.getElem?_map, e]; rfl)
      -- found
      refine ⟨Nat.zero_le _, fun F nF1 => ?_⟩
      have zF := same_upd (o := .lst []) nF1
      have hFd : F ≠ d := fun z => by
        rw [z, D1.hd] at nF1
        cases nF1
      have hFc : F ≠ c := fun z => by
        rw [z, D1.hc] at nF1
        cases nF1
      have hLF : L ≠ F := fun z => by
        rw [← z, eL] at nF1
        cases nF1
      refine ⟨_, rfl, many, rfl, by omega, by omega, for_range (lo := 0) (n := many.toNat)
        (fun i σ H2 => ∃ x6 x7 x8 x9 x10 qs cs' n', σ = [some (.ref d), some (.int k), some (.int many), some (.int upto), some (.ref L), some (.ref F), x6, x7, x8, x9, x10, none] ∧ But d c H1 H2 ∧ DeckAt H2 d c cs' n' ∧ n' ≤ n1 + 5 * i ∧ H2 L = some (.lst (ps.map V.int)) ∧
          H2 F = some (.lst (qs.map fun q => V.ref q.1)) ∧ QsAt K H2 qs ∧ (∀ q ∈ qs, OffOk k q.2 ∧ ps.getD q.2.b.toNat 1 * q.2.y ≤ ps.getD q.2.a.toNat 1 * q.2.x) ∧ qs.length ≤ i)
        ⟨none, none, none, none, none, [], cs1, n1, rfl, But.of zF, D1.same zF, by omega, zF _ _ eL, upd_same, (fun q m => by cases m), (fun q m => by cases m), Nat.zero_le _⟩ ?_ ?_⟩
      · rintro i σ H2 hi ⟨x6, x7, x8, x9, x10, qs, cs2, n2, rfl, b2, D2, hn2, eL2, eF2, hQ, hO, hl⟩
        refine ⟨_, rfl, _, rfl, d, c, cs2, n2, k, rfl, D2, by omega, by omega, by omega, fun H3 cs3 a b3 D3 ha0 ha1 => ?_⟩
        refine ⟨_, rfl, _, _, rfl, rfl, _, rfl, _, rfl, _, _, rfl, rfl, d, c, cs3, n2 + 1, k - 1, rfl, D3, by omega, by omega, by omega, fun H4 cs4 e b4 D4 he0 he1 => ?_⟩
        refine ⟨_, _, rfl, rfl, .inl ⟨_, rfl, ?_⟩⟩
        refine ⟨_, rfl, _, _, rfl, rfl, (by show 0 < k; omega), ?_⟩
        have hb0 := Int.emod_nonneg (a + 1 + e) (show k ≠ 0 by omega)
        have hb1 := Int.emod_lt_of_pos (a + 1 + e) (show 0 < k by omega)
        obtain ⟨b, hb⟩ : ∃ b : Int, (a + 1 + e) % k = b := ⟨_, rfl⟩
        rw [hb] at hb0 hb1
        refine ⟨_, rfl, _, rfl, d, c, cs4, n2 + 1 + 1, upto, rfl, D4, by omega, by omega, by omega, fun H5 cs5 x b5 D5 hx0 hx1 => ⟨1, x, rfl, rfl, ?_⟩⟩
        -- y
        obtain ⟨pa, epa, pa1, pa6, gpa⟩ := hP a ha0 ha1
        obtain ⟨pb, epb, pb1, pb6, gpb⟩ := hP b hb0 hb1
        have b25 := (b3.trans b4).trans b5
        have eL5 := b25 _ _ hLd hLc eL2
        have eF5 := b25 _ _ hFd hFc eF2
        refine ⟨_, rfl, _, rfl, L, _, a, .int pa, rfl, rfl, SqL.of eL5, hatP a pa ha0 epa, _, rfl, _, _, rfl, rfl, .inl ⟨by omega, by omega⟩, ?_⟩
        refine ⟨_, rfl, _, rfl, L, _, b, .int pb, rfl, congrArg V.int hb, SqL.of eL5, hatP b pb hb0 epb, _, _, rfl, rfl, wide_div (b := 64) (by omega) (by omega) (by decide) (by decide), ?_⟩
        refine ⟨(by show 5 ≤ sizeLine; decide), fun z nz => ?_⟩
        have sz := same_upd (o := .lst [.int 0, .int 0, .int 0, .int 1, .int 2]) nz
        have D5z := D5.same sz
        have hzd : z ≠ d := fun e => by
          rw [e, D5.hd] at nz
          cases nz
        have hzc : z ≠ c := fun e => by
          rw [e, D5.hc] at nz
          cases nz
        refine ⟨_, rfl, d, c, cs5, n2 + 1 + 1 + 1, 5, rfl, D5z, by omega, by decide, by decide, fun H6 cs6 g b6 D6 hg0 hg1 => ?_⟩
        obtain ⟨v, hv, hv0, hv2⟩ : ∃ v : Int, atI [V.int 0, V.int 0, V.int 0, V.int 1, V.int 2] g = some (.int v) ∧ 0 ≤ v ∧ v ≤ 2 := by
          have : g = 0 ∨ g = 1 ∨ g = 2 ∨ g = 3 ∨ g = 4 := by omega
          rcases this with rfl | rfl | rfl | rfl | rfl
          · exact ⟨0, rfl, by decide, by decide⟩
          · exact ⟨0, rfl, by decide, by decide⟩
          · exact ⟨0, rfl, by decide, by decide⟩
          · exact ⟨1, rfl, by decide, by decide⟩
          · exact ⟨2, rfl, by decide, by decide⟩
        refine ⟨z, _, g, .int v, rfl, rfl, SqL.of (b6 _ _ hzd hzc upd_same), hv, _, _, rfl, rfl, ?_⟩
        obtain ⟨y, hy⟩ : ∃ y : Int, pa * (1 + x) / pb - v = y := ⟨_, rfl⟩
        have hyP : pb * y ≤ pa * (1 + x) := by
          have h1 := Int.mul_ediv_self_le (x := pa * (1 + x)) (k := pb) (by omega)
          have h2 : pb * y ≤ pb * (pa * (1 + x) / pb) := Int.mul_le_mul_of_nonneg_left (by omega) (by omega)
          omega
        have b26 := b25.trans ((But.of sz).trans b6)
        have eL6 := b26 _ _ hLd hLc eL2
        have eF6 := b26 _ _ hFd hFc eF2
        have hQ6 := hQ.but D2 b26
        refine ⟨_, rfl, 0, _, rfl, congrArg V.int hy, _, rfl, ?_⟩
        have skip : ∃ x6 x7 x8 x9 x10 qs' cs' n', [some (V.ref d), some (.int k), some (.int many), some (.int upto), some (.ref L), some (.ref F), some (.int (0 + (i : Int))), some (.int a), some (V.int ((a + 1 + e) % k)), some (V.int (1 + x)), some (V.int (pa * (1 + x) / pb - v)), none] =
            [some (.ref d), some (.int k), some (.int many), some (.int upto), some (.ref L), some (.ref F), x6, x7, x8, x9, x10, none] ∧ But d c H1 H6 ∧ DeckAt H6 d c cs' n' ∧ n' ≤ n1 + 5 * ((i + 1 : Nat) : Int) ∧ H6 L = some (.lst (ps.map V.int)) ∧
            H6 F = some (.lst (qs'.map fun q => V.ref q.1)) ∧ QsAt K H6 qs' ∧ (∀ q ∈ qs', OffOk k q.2 ∧ ps.getD q.2.b.toNat 1 * q.2.y ≤ ps.getD q.2.a.toNat 1 * q.2.x) ∧ qs'.length ≤ i + 1 :=
          ⟨_, _, _, _, _, qs, cs6, n2 + 1 + 1 + 1 + 1, rfl, b2.trans b26, D6, by omega, eL6, eF6, hQ6, hO, by omega⟩
        by_cases hy0 : 0 ≤ y
        · rw [decide_eq_true hy0]
          refine iteT ⟨_, rfl, _, _, congrArg V.int hy, rfl, _, rfl, ?_⟩
          by_cases hy1 : y ≤ upto
          · rw [decide_eq_true hy1]
            refine iteT ⟨_, rfl, .inl ⟨rfl, _, SqL.of eF6⟩, _, rfl, _, rfl, _, rfl, _, rfl, (by show 4 ≤ sizeLine; decide), fun t nt => ?_⟩
            have st := same_upd (o := .tup [.int a, .int (1 + x), .int ((a + 1 + e) % k), .int (pa * (1 + x) / pb - v)]) nt
            have eF7 := st _ _ eF6
            refine ⟨F, _, _, rfl, rfl, eF7, ?_, ?_⟩
            · rw [List.length_map]
              exact small1000 (by omega)
            · refine ⟨_, _, _, _, _, qs ++ [(t, ⟨a, 1 + x, b, y⟩)], cs6, n2 + 1 + 1 + 1 + 1, rfl, ((b2.trans b26).trans (But.of st)).put nF1, (D6.same st).put hFd hFc, by omega, ?_, ?_, ?_, fun q m => ?_, ?_⟩
              · rw [upd_ne hLF]
                exact st _ _ eL6
              · rw [upd_same, List.map_append]
                rfl
              · refine QsAt.wr ((hQ6.same st).snoc (.inl (.inl ?_))) eF7
                rw [upd_same, hb, hy]
                rfl
              · rcases List.mem_append.mp m with m | m
                · exact hO q m
                · rw [List.mem_singleton.mp m]
                  refine ⟨⟨ha0, ha1, hb0, hb1, by show 1 ≤ 1 + x; omega, by show 1 + x ≤ 30; omega, hy0, by show y ≤ 30; omega⟩, ?_⟩
                  show ps.getD b.toNat 1 * y ≤ ps.getD a.toNat 1 * (1 + x)
                  rw [gpa, gpb]
                  exact hyP
              · rw [List.length_append, List.length_singleton]
                omega
          · rw [decide_eq_false hy1]
            exact iteF skip
        · rw [decide_eq_false hy0]
          exact iteF ⟨_, rfl, iteF skip⟩
      · rintro σ H2 ⟨x6, x7, x8, x9, x10, qs, cs2, n2, rfl, b2, D2, hn2, eL2, eF2, hQ, hO, hl⟩
        refine ⟨_, rfl, _, rfl, ?_⟩
        dsimp only [tNil]
        refine rd_sortset (P := P) (w := w) hk4 (SqL.of eF2) hQ (fun q m => (hO q m).1) (by omega) fun H3 p rs s3 np ep hR hRq hRl => ?_
        have hRO : ∀ q ∈ rs, OffOk k q.2 ∧ ps.getD q.2.b.toNat 1 * q.2.y ≤ ps.getD q.2.a.toNat 1 * q.2.x := fun q m => by
          obtain ⟨z, hz, e⟩ := List.mem_map.mp ((hRq q.2).mp (List.mem_map.mpr ⟨q, m, rfl⟩))
          rw [← e]
          exact hO z hz
        refine ⟨p, _, rfl, .inl ⟨SqL.of ep, fun u nu => ⟨(by show 2 ≤ sizeLine; decide), fun r nr => ?_⟩⟩⟩
        have su := same_upd (o := .tup (rs.map fun q => V.ref q.1)) nu
        have sr := same_upd (o := .tup [.int k, .ref u]) nr
        have s3r := (s3.trans su).trans sr
        refine q _ r cs2 n2 (rs.map Prod.snd) ((b1.trans b2).trans (But.of s3r)) (D2.same s3r) (by omega) (board_of (.inl (.inl upd_same)) (.inl (.inl (sr _ _ upd_same))) (hR.same (su.trans sr)))
          (osOk_of hk2 hk4 (by rw [List.length_map]; omega) fun o ho => ?_) ⟨fun a => ps.getD a.toNat 1, hpos, fun o ho => ?_⟩
        · obtain ⟨z, hz, e⟩ := List.mem_map.mp ho
          rw [← e]
          exact (hRO z hz).1
        · obtain ⟨z, hz, e⟩ := List.mem_map.mp ho
          rw [← e]
          exact (hRO z hz).2
/-! ### _law_some -/
def spSome (K : PySem.W.Frag) : Sp := fun vs H Q _ => ∃ (d c : Addr) (cs : List Int) (n t : Int), vs = [.ref d, .int t] ∧ DeckAt H d c cs n ∧ n ≤ 40000 ∧
  ∀ (H' : Hp) (r b : Addr) (x : V) (cs' : List Int) (n' k : Int) (os : List Off), But d c H H' → DeckAt H' d c cs' n' → n' ≤ n + 200 → SqT K H' r [.ref b, x] → BoardAt K H' b k os → OsOk k os → (3 ≤ t → Fair os) → Q (.ref r) H'
theorem ok_LawSome (D : Dfn K mg "_law_some" sLawSome ["_law_deck_here", "_law_turn"]) (GLawDraw : Ok P w K mg base 1 "_law_draw" ["_law_deck_here", "_law_many"] spDraw) (GLawRing : Ok P w K mg base 3 "_law_ring" ["_law_deck_here", "_law_kinds"] (spRing K))
    (GLawFair : Ok P w K mg base 2 "_law_fair" ["_law_deck_here", "_law_kinds", "_law_many", "_law_upto"] (spFair K)) : Ok P w K mg base 4 "_law_some" ["_law_deck_here", "_law_turn"] (spSome K) := by
  refine ok_by D scLawSome (fun vs H Q E h => ?_) (fun f cdv A outer s H vs Q E hr h => ?_)
  · obtain ⟨d, c, cs, n, t, rfl, _⟩ := h
    rfl
  · obtain ⟨d, c, cs, n, t, rfl, D0, hn, q⟩ := h
    refine ⟨_, (pss_cons (ps_set (i := 2) scLawSome.nd rfl (.inl rfl) (pe_op op_add pe_int (pe_ok GLawDraw (hr.mono (by decide)) (by rfl) (pa_cons (pv 0) (pa_cons pe_int pa_nil)))))
    (pss_cons (ps_if (pt_cmpR op_lt (pv 1) pe_int (nomark _)) (pss_one (ps_ret (pe_ok GLawRing (hr.mono (by decide)) (by rfl) (pa_cons (pv 0) (pa_cons (pv 2) pa_nil))))) pss_nil)
    (pss_one (ps_ret (pe_tup (pa_cons (pe_ok GLawFair (hr.mono (by decide)) (by rfl) (pa_cons (pv 0) (pa_cons (pv 2) (pa_cons (pe_op op_add pe_int (pe_ok GLawDraw (hr.mono (by decide)) (by rfl) (pa_cons (pv 0) (pa_cons pe_int pa_nil)))) (pa_cons (pe_ix ix_list (pe_lst (pa_cons pe_int (pa_cons pe_int (pa_cons pe_int pa_nil)))) (pe_ok GLawDraw (hr.mono (by decide)) (by rfl) (pa_cons (pv 0) (pa_cons pe_int pa_nil))) (fun _ _ => rfl)) pa_nil))))) (pa_cons (pe_tup pa_nil) pa_nil))))))), ?_⟩
    refine ⟨_, rfl, d, c, cs, n, 3, rfl, D0, by omega, by decide, by decide, fun H1 cs1 k0 b1 D1 hk0 hk1 => ⟨2, k0, rfl, rfl, ?_⟩⟩
    refine ⟨_, rfl, _, _, rfl, rfl, _, rfl, ?_⟩
    by_cases ht : t < 3
    · rw [decide_eq_true ht]
      refine iteT ⟨_, rfl, _, rfl, d, c, cs1, n + 1, 2 + k0, rfl, D1, by omega, by omega, by omega, fun H2 r b x cs2 n2 os b2 D2 hn2 S2 B2 ok2 => ?_⟩
      exact q H2 r b x cs2 n2 (2 + k0) os (b1.trans b2) D2 (by omega) S2 B2 ok2 fun z => by omega
    · rw [decide_eq_false ht]
      refine iteF ⟨_, rfl, _, rfl, _, rfl, d, c, cs1, n + 1, 7, rfl, D1, by omega, by decide, by decide, fun H2 cs2 m b2 D2 hm0 hm1 => ⟨2, m, rfl, rfl, ?_⟩⟩
      refine ⟨(by show 3 ≤ sizeLine; decide), fun z nz => ?_⟩
      have sz := same_upd (o := .lst [.int 4, .int 9, .int 30]) nz
      have hzd : z ≠ d := fun e => by
        rw [e, D2.hd] at nz
        cases nz
      have hzc : z ≠ c := fun e => by
        rw [e, D2.hc] at nz
        cases nz
      refine ⟨_, rfl, d, c, cs2, n + 1 + 1, 3, rfl, D2.same sz, by omega, by decide, by decide, fun H3 cs3 g b3 D3 hg0 hg1 => ?_⟩
      obtain ⟨v, hv, hv0, hv2⟩ : ∃ v : Int, atI [V.int 4, V.int 9, V.int 30] g = some (.int v) ∧ 1 ≤ v ∧ v ≤ 30 := by
        have : g = 0 ∨ g = 1 ∨ g = 2 := by omega
        rcases this with rfl | rfl | rfl
        · exact ⟨4, rfl, by decide, by decide⟩
        · exact ⟨9, rfl, by decide, by decide⟩
        · exact ⟨30, rfl, by decide, by decide⟩
      refine ⟨z, _, g, .int v, rfl, rfl, SqL.of (b3 _ _ hzd hzc upd_same), hv, ?_⟩
      refine ⟨d, c, cs3, n + 1 + 1 + 1, 2 + k0, 2 + m, v, rfl, D3, by omega, by omega, by omega, by omega, by omega, hv0, hv2, fun H4 r cs4 n4 os b4 D4 hn4 B4 ok4 f4 => ?_⟩
      refine ⟨Nat.zero_le _, fun e ne => ?_⟩
      have se := same_upd (o := .tup []) ne
      refine ⟨(by show 2 ≤ sizeLine; decide), fun p np => ?_⟩
      have sp := same_upd (o := .tup [.ref r, .ref e]) np
      have s4 := se.trans sp
      exact q _ p r (.ref e) cs4 n4 (2 + k0) os (((b1.trans b2).trans (But.of sz)).trans ((b3.trans b4).trans (But.of s4))) (D4.same s4) (by omega) (.inl (.inl upd_same)) (B4.same s4) ok4 fun _ => f4
end
end Sm
end
section
set_option Elab.async false
set_option linter.all false
set_option maxRecDepth 100000
set_option maxHeartbeats 4000000
namespace Sm
open PySem PySem.Spec PyProof.Rows L2 SmR
/-! ### the table of ratios -/
def EntAt (K : PySem.W.Frag) (H : Hp) (v : V) (os : List Off) (a c : Int) : Prop :=
  (v = .non ∧ ¬ Reach os a c) ∨ ∃ r T, v = .ref r ∧ SqT K H r [.int (lown (num os T) (den os T)), .int (lowd (num os T) (den os T))] ∧ Top os a c T
def RowAt (K : PySem.W.Frag) (H : Hp) (r : Addr) (k : Int) (os : List Off) (a : Int) : Prop := ∃ es, H r = some (.lst es) ∧ es.length = k.toNat ∧ ∀ c, 0 ≤ c → c < k → ∃ v, es[c.toNat]? = some v ∧ EntAt K H v os a c
def TabAt (K : PySem.W.Frag) (H : Hp) (t : Addr) (k : Int) (os : List Off) : Prop := ∃ rs, H t = some (.lst rs) ∧ rs.length = k.toNat ∧ ∀ a, 0 ≤ a → a < k → ∃ r, rs[a.toNat]? = some (.ref r) ∧ RowAt K H r k os a
section
variable {K : PySem.W.Frag} {H H' : Hp} {k : Int} {os : List Off}
theorem EntAt.same {v : V} {a c : Int} (e : Same H H') (h : EntAt K H v os a c) : EntAt K H' v os a c := by
  rcases h with h | ⟨r, T, h1, h2, h3⟩
  · exact .inl h
  · exact .inr ⟨r, T, h1, same_seqT e h2, h3⟩
theorem RowAt.same {r : Addr} {a : Int} (e : Same H H') (h : RowAt K H r k os a) : RowAt K H' r k os a := by
  obtain ⟨es, h1, h2, h3⟩ := h
  refine ⟨es, e _ _ h1, h2, fun c h0 h4 => ?_⟩
  obtain ⟨v, a, b⟩ := h3 c h0 h4
  exact ⟨v, a, b.same e⟩
theorem TabAt.same {t : Addr} (e : Same H H') (h : TabAt K H t k os) : TabAt K H' t k os := by
  obtain ⟨rs, h1, h2, h3⟩ := h
  refine ⟨rs, e _ _ h1, h2, fun a h0 h4 => ?_⟩
  obtain ⟨r, x, y⟩ := h3 a h0 h4
  exact ⟨r, x, y.same e⟩
theorem Top.reach {a c : Int} {T : List Nat} (t : Top os a c T) : Reach os a c := ⟨T, t.1.1.walk, t.2.1⟩
theorem EntAt.ref {v : V} {a c : Int} (h : EntAt K H v os a c) (re : Reach os a c) : ∃ r T, v = .ref r ∧ SqT K H r [.int (lown (num os T) (den os T)), .int (lowd (num os T) (den os T))] ∧ Top os a c T := by
  rcases h with h | h
  · exact absurd re h.2
  · exact h
/-- table[a][c] -/
theorem rd_tab {σ : L2.St} {Q : VK} {n : Nat} {tb : Addr} {a c : Int} {ta tc : TE} (hn : σ[n]? = some (some (.ref tb))) (T : TabAt K H tb k os) (a0 : 0 ≤ a) (a1 : a < k) (c0 : 0 ≤ c) (c1 : c < k)
    (ha : ∀ R : VK, R (.int a) H → ta σ H R) (hc : ∀ R : VK, R (.int c) H → tc σ H R) (q : ∀ v, EntAt K H v os a c → Q v H) : tOp (rIxL K) (tOp (rIxL K) (tVar n) ta) tc σ H Q := by
  obtain ⟨rs, h1, h2, h3⟩ := T
  obtain ⟨r, e1, es, h4, h5, h6⟩ := h3 a a0 a1
  obtain ⟨v, e2, e3⟩ := h6 c c0 c1
  refine ⟨_, hn, ?_⟩
  refine ha _ ⟨tb, rs, a, .ref r, rfl, rfl, SqL.of h1, at_of (j := a.toNat) (by omega) e1, ?_⟩
  refine hc _ ⟨r, es, c, v, rfl, rfl, SqL.of h4, at_of (j := c.toNat) (by omega) e2, q v e3⟩
/-- board[1][t][j], j in a name -/
theorem rd_offv {σ : L2.St} {Q : VK} {p : Addr} {b : Nat} {ti tj : TE} {j i : Nat} {v : V} (hb : σ[b]? = some (some (.ref p))) (B : BoardAt K H p k os) (hi : i < os.length) (hv : (ov (off os i))[j]? = some v)
    (ht : ∀ R : VK, R (nv i) H → ti σ H R) (hj : ∀ R : VK, R (.int (j : Int)) H → tj σ H R) (q : Q v H) : tOp (rIxT K) (tOp (rIxT K) (tB K b 1) ti) tj σ H Q := by
  obtain ⟨u, vs, h1, h2, h3, h4⟩ := B
  obtain ⟨r, e1, e2⟩ := h4 i hi
  refine ⟨_, hb, p, _, 1, .ref u, rfl, rfl, h1, atI_nat (j := 1) rfl, ?_⟩
  refine ht _ ⟨u, _, (i : Int), .ref r, rfl, rfl, h2, atI_nat e1, ?_⟩
  exact hj _ ⟨r, _, (j : Int), v, rfl, rfl, e2, atI_nat hv, q⟩
end
section
variable {P : Program} {w : World} {K : PySem.W.Frag} {mg : Str → Option Value} {base : Heap}
/-! ### _law_more, _law_product, _law_times -/
def spMore (K : PySem.W.Frag) : Sp := fun vs H Q _ => ∃ (p q : Addr) (n1 d1 n2 d2 : Int), vs = [.ref p, .ref q] ∧ SqT K H p [.int n1, .int d1] ∧ SqT K H q [.int n2, .int d2] ∧ (-(2 ^ 64) < n1 ∧ n1 < 2 ^ 64) ∧ (-(2 ^ 64) < d1 ∧ d1 < 2 ^ 64) ∧
  Q (.bl (decide (n2 * d1 < n1 * d2))) H
theorem ok_LawMore (D : Dfn K mg "_law_more" sLawMore ["_law_one", "_law_other"]) : Ok P w K mg base 1 "_law_more" ["_law_one", "_law_other"] (spMore K) := by
  refine ok_by D scLawMore (fun vs H Q E h => ?_) (fun f cdv A outer s H vs Q E hr h => ?_)
  · obtain ⟨p, q, n1, d1, n2, d2, rfl, _⟩ := h
    rfl
  · obtain ⟨p, q, n1, d1, n2, d2, rfl, s1, s2, b1, b2, k⟩ := h
    refine ⟨_, (pss_cons (ps_if (PW.pt (pw_or (pt_cmpR op_isN (pv 0) pe_non (nomark _)) (pw_or1 (pt_cmpR op_isN (pv 1) pe_non (nomark _))))) (pss_one (ps_ret (pe_and (pe_cmpR op_notN (pv 0) pe_non (nomark _)) (pe_one (pe_cmpR op_isN (pv 1) pe_non (nomark _)))))) pss_nil)
    (pss_one (ps_ret (pe_cmpR op_gt (pe_op op_mul (pe_ix ix_tup (pv 0) pe_int (fun _ _ => rfl)) (pe_ix ix_tup (pv 1) pe_int (fun _ _ => rfl))) (pe_op op_mul (pe_ix ix_tup (pv 1) pe_int (fun _ _ => rfl)) (pe_ix ix_tup (pv 0) pe_int (fun _ _ => rfl))) (nomark _))))), ?_⟩
    have e1 : decide (V.ref p = V.non) = false := decide_eq_false (by intro z; cases z)
    have e2 : decide (V.ref q = V.non) = false := decide_eq_false (by intro z; cases z)
    refine ⟨_, rfl, rfl, _, rfl, ?_⟩
    rw [e1]
    refine iteF ⟨_, rfl, rfl, _, rfl, ?_⟩
    rw [e2]
    refine iteF ?_
    refine rd_tup (j := 0) rfl s1 rfl (rd_tup (j := 1) rfl s2 rfl ⟨_, _, rfl, rfl, .inl b1, rd_tup (j := 0) rfl s2 rfl (rd_tup (j := 1) rfl s1 rfl ⟨_, _, rfl, rfl, .inr b2, _, _, rfl, rfl, k⟩)⟩)
def spProd (K : PySem.W.Frag) : Sp := fun vs H Q _ => ∃ (p t : Addr) (k : Int) (os : List Off) (T : List Nat) (j : Nat), vs = [.ref p, .ref t, .int (j : Nat)] ∧ BoardAt K H p k os ∧ OsOk k os ∧ TrAt K H t T ∧ (∀ i ∈ T, i < os.length) ∧ T.length ≤ 6 ∧ (j = 1 ∨ j = 3) ∧
  Q (.int (if j = 1 then den os T else num os T)) H
theorem ok_LawProduct (D : Dfn K mg "_law_product" sLawProduct ["_law_board_here", "_law_indexes", "_law_item"]) : Ok P w K mg base 1 "_law_product" ["_law_board_here", "_law_indexes", "_law_item"] (spProd K) := by
  refine ok_by D scLawProduct (fun vs H Q E h => ?_) (fun f cdv A outer s H vs Q E hr h => ?_)
  · obtain ⟨p, t, k, os, T, j, rfl, _⟩ := h
    rfl
  · obtain ⟨p, t, k, os, T, j, rfl, B, ok, St, hT, hl, hj, q⟩ := h
    refine ⟨_, (pss_cons (ps_set (i := 3) scLawProduct.nd rfl (.inl rfl) pe_int)
    (pss_cons (ps_for PassesOwn.never rfl (pi_tup (pv 1)) (pg_name (i := 4) scLawProduct.nd rfl (.inl rfl))
      (pss_one (ps_set (i := 3) scLawProduct.nd rfl (.inl rfl) (pe_op op_mul (pv 3) (pe_ix ix_tup (pe_ix ix_tup (pe_ix ix_tup (pv 0) pe_int (fun _ _ => rfl)) (pv 4) (fun _ _ => rfl)) (pv 2) (fun _ _ => rfl))))))
    (pss_one (ps_ret (pv 3))))), ?_⟩
    refine ⟨_, rfl, t, rfl, ⟨_, St⟩, for_tup (K := K) (a := t) (xs := T.map nv) (fun i σ H' => ∃ x4, σ = [some (.ref p), some (.ref t), some (.int (j : Nat)), some (.int (if j = 1 then den os (T.take i) else num os (T.take i))), x4] ∧ H' = H)
      ⟨none, by rcases hj with rfl | rfl <;> rfl, rfl⟩ (fun i σ H' _ ⟨_, _, e⟩ => by rw [e]; exact St) ?_ ?_⟩
    · rintro i x σ H' hx ⟨x4, rfl, rfl⟩
      obtain ⟨hi, ex⟩ := List.getElem?_eq_some_iff.mp hx
      rw [List.length_map] at hi
      rw [List.getElem_map] at ex
      subst ex
      have hm : T[i] < os.length := hT _ (List.getElem_mem hi)
      obtain ⟨e1, e2⟩ := num_take_succ (os := os) hi
      have bd := num_den_6 ok (T := T.take i) (fun j hj => hT j (List.mem_of_mem_take hj)) (by rw [List.length_take]; omega)
      rcases hj with rfl | rfl
      · refine ⟨_, rfl, rd_offv (j := 1) (v := .int (off os T[i]).x) rfl B hm rfl (rd_var rfl) (rd_var rfl) ⟨_, _, rfl, rfl, .inl ⟨by rw [if_pos rfl]; omega, by rw [if_pos rfl]; omega⟩, ?_⟩⟩
        refine ⟨some (nv T[i]), ?_, rfl⟩
        rw [if_pos rfl, if_pos rfl, e2]
        rfl
      · refine ⟨_, rfl, rd_offv (j := 3) (v := .int (off os T[i]).y) rfl B hm rfl (rd_var rfl) (rd_var rfl) ⟨_, _, rfl, rfl, .inl ⟨by rw [if_neg (by decide)]; omega, by rw [if_neg (by decide)]; omega⟩, ?_⟩⟩
        refine ⟨some (nv T[i]), ?_, rfl⟩
        rw [if_neg (by decide), if_neg (by decide), e1]
        rfl
    · rintro σ H' ⟨x4, rfl, rfl⟩
      have et : T.take (T.map nv).length = T := by rw [List.length_map, List.take_length]
      rw [et]
      exact ⟨_, rfl, q⟩
def spTimes (K : PySem.W.Frag) : Sp := fun vs H Q _ => ∃ (p q : Addr) (n1 d1 n2 d2 : Int), vs = [.ref p, .ref q] ∧ SqT K H p [.int n1, .int d1] ∧ SqT K H q [.int n2, .int d2] ∧ (-(2 ^ 64) < n1 ∧ n1 < 2 ^ 64) ∧ (-(2 ^ 64) < d1 ∧ d1 < 2 ^ 64) ∧
  ∀ r, H r = none → Q (.ref r) (upd H r (.tup [.int (n1 * n2), .int (d1 * d2)]))
theorem ok_LawTimes (D : Dfn K mg "_law_times" sLawTimes ["_law_one", "_law_other"]) : Ok P w K mg base 1 "_law_times" ["_law_one", "_law_other"] (spTimes K) := by
  refine ok_by D scLawTimes (fun vs H Q E h => ?_) (fun f cdv A outer s H vs Q E hr h => ?_)
  · obtain ⟨p, q, n1, d1, n2, d2, rfl, _⟩ := h
    rfl
  · obtain ⟨p, q, n1, d1, n2, d2, rfl, s1, s2, b1, b2, k⟩ := h
    refine ⟨_, (pss_one (ps_ret (pe_tup (pa_cons (pe_op op_mul (pe_ix ix_tup (pv 0) pe_int (fun _ _ => rfl)) (pe_ix ix_tup (pv 1) pe_int (fun _ _ => rfl))) (pa_cons (pe_op op_mul (pe_ix ix_tup (pv 0) pe_int (fun _ _ => rfl)) (pe_ix ix_tup (pv 1) pe_int (fun _ _ => rfl))) pa_nil))))), ?_⟩
    refine rd_tup (j := 0) rfl s1 rfl (rd_tup (j := 0) rfl s2 rfl ⟨_, _, rfl, rfl, .inl b1, rd_tup (j := 1) rfl s1 rfl (rd_tup (j := 1) rfl s2 rfl ⟨_, _, rfl, rfl, .inl b2, (by show 2 ≤ sizeLine; decide), fun r nr => k r nr⟩)⟩)
end
end Sm
end
section
set_option Elab.async false
set_option linter.all false
set_option maxRecDepth 100000
set_option maxHeartbeats 4000000
namespace Sm
open PySem PySem.Spec PyProof.Rows L2 SmR
/-! ### the plain law of a pair -/
section
variable {k : Int} {os : List Off}
theorem top_bd (ok : OsOk k os) {a c : Int} (h0 : 0 ≤ a) (h1 : a < k) {T : List Nat} (t : Top os a c T) : 1 ≤ lown (num os T) (den os T) ∧ lown (num os T) (den os T) ≤ 27000 ∧ 1 ≤ lowd (num os T) (den os T) ∧ lowd (num os T) (den os T) ≤ 27000 := by
  have b := trail_bd ok h0 h1 t.1
  have l := low_bd (n := num os T) (d := den os T) (by omega) (by omega)
  have e1 := (low_spec (n := num os T) (d := den os T) (by omega)).1
  have g := gcd_pos (n := num os T) (d := den os T) (by omega)
  have p : 0 < lown (num os T) (den os T) := by
    refine Int.pos_of_mul_pos_left (b := ((Int.gcd (num os T) (den os T) : Nat) : Int)) ?_ (by omega)
    omega
  omega
/-- two best trails have one ratio -/
theorem top_same (ok : OsOk k os) {a c : Int} {T U : List Nat} (t : Top os a c T) (u : Top os a c U) : lown (num os T) (den os T) * den os U = lowd (num os T) (den os T) * num os U := by
  have e : num os T * den os U = num os U * den os T := Int.le_antisymm (u.2.2 T t.1 t.2.1) (t.2.2 U u.1 u.2.1)
  have dp := den_pos ok T
  obtain ⟨a1, a2⟩ := low_spec (n := num os T) (d := den os T) dp
  have g := gcd_pos (n := num os T) (d := den os T) dp
  generalize lown (num os T) (den os T) = x at *
  generalize lowd (num os T) (den os T) = y at *
  generalize ((Int.gcd (num os T) (den os T) : Nat) : Int) = w at *
  refine Int.eq_of_mul_eq_mul_right (a := w) (by omega) ?_
  rw [← a1, ← a2] at e
  grind
/-- a best trail from a kind to itself is empty -/
theorem top_self {a : Int} {T : List Nat} (t : Top os a a T) : T = [] := by
  have nd := t.1.2
  cases T with
  | nil => rfl
  | cons i T =>
    exfalso
    have e : endK os (dst os i) T = a := t.2.1
    have m := end_mem (os := os) (dst os i) T
    rw [e] at m
    unfold kds at nd m
    rw [List.map_cons] at nd
    exact (List.nodup_cons.mp nd).1 m
/-- no ratio is above the quotient of the prices -/
theorem top_prices (ok : OsOk k os) (ng : ∀ c, NoGain os c) {a c na da nc dc pa pc y W : Int} {T : List Nat} (t : Top os a c T) (pra : Price os a na da) (prc : Price os c nc dc) (hy : 0 < y) (hW : 0 < W) (ea : pa * y * da = na * W) (ec : pc * y * dc = nc * W) :
    lown (num os T) (den os T) * pc ≤ pa * lowd (num os T) (den os T) := by
  have h := top_price ok ng t pra prc
  have dp := den_pos ok T
  obtain ⟨a1, a2⟩ := low_spec (n := num os T) (d := den os T) dp
  have g := gcd_pos (n := num os T) (d := den os T) dp
  have da0 := pra.2.1
  have dc0 := prc.2.1
  generalize lown (num os T) (den os T) = x at *
  generalize lowd (num os T) (den os T) = z at *
  generalize ((Int.gcd (num os T) (den os T) : Nat) : Int) = w at *
  have m := Int.mul_pos (Int.mul_pos (Int.mul_pos hy dc0) da0) g
  refine Int.le_of_mul_le_mul_right (a := y * dc * da * w) ?_ m
  have h2 := Int.mul_le_mul_of_nonneg_right h (Int.le_of_lt hW)
  have e1 : x * pc * (y * dc * da * w) = (num os T * nc) * da * W := by
    rw [← a1]
    grind
  have e2 : pa * z * (y * dc * da * w) = na * (den os T * dc) * W := by
    rw [← a2]
    grind
  rw [e1, e2]
  exact h2
/-- by way of a third kind -/
theorem third_low (ok : OsOk k os) {n1 d1 n2 d2 : Int} {V : List Nat} (p1 : 0 < d1) (p2 : 0 < d2) (h : (n1 * n2) * den os V ≤ num os V * (d1 * d2)) : ¬ lown (num os V) (den os V) * (lowd n1 d1 * lowd n2 d2) < (lown n1 d1 * lown n2 d2) * lowd (num os V) (den os V) := by
  intro z
  have dp := den_pos ok V
  obtain ⟨a1, b1⟩ := low_spec (n := n1) p1
  obtain ⟨a2, b2⟩ := low_spec (n := n2) p2
  obtain ⟨a3, b3⟩ := low_spec (n := num os V) (d := den os V) dp
  have g1 := gcd_pos (n := n1) p1
  have g2 := gcd_pos (n := n2) p2
  have g3 := gcd_pos (n := num os V) (d := den os V) dp
  generalize lown n1 d1 = x1 at *
  generalize lowd n1 d1 = y1 at *
  generalize lown n2 d2 = x2 at *
  generalize lowd n2 d2 = y2 at *
  generalize lown (num os V) (den os V) = x3 at *
  generalize lowd (num os V) (den os V) = y3 at *
  generalize ((Int.gcd n1 d1 : Nat) : Int) = u1 at *
  generalize ((Int.gcd n2 d2 : Nat) : Int) = u2 at *
  generalize ((Int.gcd (num os V) (den os V) : Nat) : Int) = u3 at *
  have m := Int.mul_pos (Int.mul_pos g1 g2) g3
  have h2 := Int.mul_lt_mul_of_pos_right z m
  rw [← a1, ← b1, ← a2, ← b2, ← a3, ← b3] at h
  have e1 : x3 * (y1 * y2) * (u1 * u2 * u3) = x3 * u3 * (y1 * u1 * (y2 * u2)) := by grind
  have e2 : x1 * x2 * y3 * (u1 * u2 * u3) = x1 * u1 * (x2 * u2) * (y3 * u3) := by grind
  rw [e1, e2] at h2
  omega
end
section
variable {P : Program} {w : World} {K : PySem.W.Frag} {mg : Str → Option Value} {base : Heap}
/-! ### _law_pair -/
def spPair (K : PySem.W.Frag) : Sp := fun vs H Q _ => ∃ (p q tb : Addr) (k a c : Int) (os : List Off) (ps : List Int), vs = [.ref p, .ref q, .ref tb, .int a, .int c] ∧ BoardAt K H p k os ∧ OsOk k os ∧ (∀ c, NoGain os c) ∧ SqT K H q (ps.map V.int) ∧ Priced k os ps ∧ TabAt K H tb k os ∧
  0 ≤ a ∧ a < k ∧ 0 ≤ c ∧ c < k ∧ ∀ H', Same H H' → Q (.bl true) H'
theorem ok_LawPair (D : Dfn K mg "_law_pair" sLawPair ["_law_board_here", "_law_prices", "_law_table", "_law_a", "_law_c"]) (GLeads : Ok P w K mg base 4 "leads" ["board", "one", "other"] (spLeads K)) (GBestTrail : Ok P w K mg base 9 "best_trail" ["board", "one", "other"] (spBB K))
    (GLawProduct : Ok P w K mg base 1 "_law_product" ["_law_board_here", "_law_indexes", "_law_item"] (spProd K)) (GLawMore : Ok P w K mg base 1 "_law_more" ["_law_one", "_law_other"] (spMore K)) (mrepr : mg "repr" = none) :
    OkG P w K mg base 10 "_law_pair" ["_law_board_here", "_law_prices", "_law_table", "_law_a", "_law_c"] (spPair K) := by
  refine ok_byG D scLawPair (fun vs H Q E h => ?_) (fun f cdv A outer s H vs Q E hgd hr h => ?_)
  · obtain ⟨p, q, tb, k, a, c, os, ps, rfl, _⟩ := h
    rfl
  · obtain ⟨p, pq, tb, k, a, c, os, ps, rfl, B, ok, ng, SP, ⟨hpl, y, W, hy, hW, hpr⟩, TB, ha0, ha1, hc0, hc1, q⟩ := h
    refine ⟨_, (pss_cons (ps_set (i := 5) scLawPair.nd rfl (.inl rfl) (pe_ix ix_list (pe_ix ix_list (pv 2) (pv 3) (fun _ _ => rfl)) (pv 4) (fun _ _ => rfl)))
    (pss_cons (ps_if (pt_cmpR op_ne (pe_callB (cr_repr2 hgd hr.units) (by rfl) mrepr (by decide +kernel) (pa_cons (pe_lst (pa_cons (pe_ok GLeads (hr.mono (by decide)) (by rfl) (pa_cons (pv 0) (pa_cons (pv 3) (pa_cons (pv 4) pa_nil)))) (pa_cons (pe_cmpR op_isN (pe_ok GBestTrail (hr.mono (by decide)) (by rfl) (pa_cons (pv 0) (pa_cons (pv 3) (pa_cons (pv 4) pa_nil)))) pe_non (nomark _)) pa_nil))) pa_nil)) (pe_callB (cr_repr2 hgd hr.units) (by rfl) mrepr (by decide +kernel) (pa_cons (pe_lst (pa_cons (pe_cmpR op_notN (pv 5) pe_non (nomark _)) (pa_cons (pe_cmpR op_isN (pv 5) pe_non (nomark _)) pa_nil))) pa_nil)) (nomark _)) (pss_one (ps_ret pe_bl)) pss_nil)
    (pss_cons (ps_if (pt_cmpR op_isN (pv 5) pe_non (nomark _)) (pss_one (ps_ret pe_bl)) pss_nil)
    (pss_cons (ps_set (i := 6) scLawPair.nd rfl (.inl rfl) (pe_ok GBestTrail (hr.mono (by decide)) (by rfl) (pa_cons (pv 0) (pa_cons (pv 3) (pa_cons (pv 4) pa_nil)))))
    (pss_cons (ps_if (pt_cmpR op_ne (pe_op op_mul (pe_ix ix_tup (pv 5) pe_int (fun _ _ => rfl)) (pe_ok GLawProduct (hr.mono (by decide)) (by rfl) (pa_cons (pv 0) (pa_cons (pv 6) (pa_cons pe_int pa_nil))))) (pe_op op_mul (pe_ix ix_tup (pv 5) pe_int (fun _ _ => rfl)) (pe_ok GLawProduct (hr.mono (by decide)) (by rfl) (pa_cons (pv 0) (pa_cons (pv 6) (pa_cons pe_int pa_nil))))) (nomark _)) (pss_one (ps_ret pe_bl)) pss_nil)
    (pss_one (ps_ret (pe_and (pe_not (pe_ok GLawMore (hr.mono (by decide)) (by rfl) (pa_cons (pv 5) (pa_cons (pe_tup (pa_cons (pe_ix ix_tup (pv 1) (pv 3) (fun _ _ => rfl)) (pa_cons (pe_ix ix_tup (pv 1) (pv 4) (fun _ _ => rfl)) pa_nil))) pa_nil)))) (pe_one (pe_or (pe_cmpR op_ne (pv 3) (pv 4) (nomark _)) (pe_one (pe_cmpR (op_eqD hr.units) (pv 5) (pe_tup (pa_cons pe_int (pa_cons pe_int pa_nil))) (nomark _))))))))))))), ?_⟩
    refine rd_tab rfl TB ha0 ha1 hc0 hc1 (rd_var rfl) (rd_var rfl) fun v ev => ?_
    -- repr([leads, best_trail is None]) != repr([here is not None, here is None])
    refine ⟨_, rfl, _, rfl, _, rfl, p, k, a, c, os, rfl, B, ok, ha0, ha1, hc0, hc1, fun H1 b1 s1 hb1 => ?_⟩
    refine ⟨_, rfl, _, rfl, _, rfl, p, k, a, c, os, rfl, B.same s1, ok, ha0, ha1, hc0, hc1, ng, fun H2 s2 hn => ?_, fun H2 t T s2 st top => ?_⟩
    · -- not led to
      rcases ev with ⟨rfl, _⟩ | ⟨r, T, rfl, Sr, top⟩
      · have e1 : b1 = false := by
          cases b1 with
          | false => rfl
          | true => exact absurd (hb1.mp rfl) hn
        subst e1
        refine ⟨rfl, (by show 2 ≤ sizeLine; decide), fun l nl => ⟨l, false, true, rfl, upd_same, ?_⟩⟩
        have sl := same_upd (o := .lst [.bl false, .bl true]) nl
        refine ⟨_, rfl, rfl, _, rfl, rfl, (by show 2 ≤ sizeLine; decide), fun l2 nl2 => ⟨l2, false, true, rfl, upd_same, rfl, _, rfl, iteNS rfl ?_⟩⟩
        have sl2 := same_upd (o := .lst [.bl false, .bl true]) nl2
        refine ⟨_, rfl, rfl, _, rfl, ?_⟩
        rw [decide_eq_true rfl]
        exact iteT (q _ (((s1.trans s2).trans sl).trans sl2))
      · exact absurd top.reach hn
    · obtain ⟨r, U, rfl, Sr, topU⟩ := ev.ref top.reach
      have e1 : b1 = true := hb1.mpr top.reach
      subst e1
      have dn : ∀ x : Addr, decide (V.ref x = V.non) = false := fun x => decide_eq_false (by intro z; cases z)
      refine ⟨rfl, (by show 2 ≤ sizeLine; decide), fun l nl => ?_⟩
      have sl := same_upd (o := .lst [.bl true, .bl (decide (V.ref t = V.non))]) nl
      refine ⟨l, true, false, rfl, by rw [upd_same, dn t], ?_⟩
      refine ⟨_, rfl, rfl, _, rfl, rfl, (by show 2 ≤ sizeLine; decide), fun l2 nl2 => ?_⟩
      have sl2 := same_upd (o := .lst [.bl (!decide (V.ref r = V.non)), .bl (decide (V.ref r = V.non))]) nl2
      refine ⟨l2, true, false, rfl, by rw [upd_same, dn r]; rfl, rfl, _, rfl, iteNS rfl ?_⟩
      have s02 := ((s1.trans s2).trans sl).trans sl2
      refine ⟨_, rfl, rfl, _, rfl, ?_⟩
      rw [dn r]
      refine iteF ?_
      -- trail
      refine ⟨_, rfl, _, rfl, _, rfl, p, k, a, c, os, rfl, B.same s02, ok, ha0, ha1, hc0, hc1, ng, fun H3 s3 hn => absurd top.reach hn, fun H3 t3 T3 s3 st3 top3 => ?_⟩
      have s03 := s02.trans s3
      have B3 := B.same s03
      have Sr3 := same_seqT s03 Sr
      have tb := top_bd ok ha0 ha1 topU
      have h3 := trail_len ok ha0 ha1 top3.1
      have hi3 := chain_idx T3 a top3.1.1
      refine rd_tup (j := 0) rfl Sr3 rfl ⟨_, rfl, _, rfl, p, t3, k, os, T3, 1, rfl, B3, ok, st3, hi3, by omega, .inl rfl, _, _, rfl, rfl, .inl ⟨by omega, by omega⟩, ?_⟩
      refine rd_tup (j := 1) rfl Sr3 rfl ⟨_, rfl, _, rfl, p, t3, k, os, T3, 3, rfl, B3, ok, st3, hi3, by omega, .inr rfl, _, _, rfl, rfl, .inl ⟨by omega, by omega⟩, rfl, _, rfl, ?_⟩
      rw [if_pos rfl, if_neg (by decide)]
      refine iteNS (congrArg V.int (top_same ok topU top3)) ?_
      -- return
      have hca : a.toNat < ps.length := by omega
      have hcc : c.toNat < ps.length := by omega
      obtain ⟨na, da, pa, epa, pra, _, _, ea⟩ := hpr a ha0 ha1
      obtain ⟨nc, dc, pc, epc, prc, _, _, ec⟩ := hpr c hc0 hc1
      have atP : ∀ (z x : Int), 0 ≤ z → ps[z.toNat]? = some x → atI (ps.map V.int) z = some (.int x) := fun z x h0 e => at_of (j := z.toNat) (by omega) (by rw [List.getElem?_map, e]; rfl)
      have SP3 := same_seqT s03 SP
      refine ⟨_, rfl, _, rfl, _, rfl, pq, _, a, .int pa, rfl, rfl, SP3, atP a pa ha0 epa, _, rfl, _, rfl, pq, _, c, .int pc, rfl, rfl, SP3, atP c pc hc0 epc, (by show 2 ≤ sizeLine; decide), fun u nu => ?_⟩
      have su := same_upd (o := .tup [.int pa, .int pc]) nu
      refine ⟨r, u, _, _, pa, pc, rfl, same_seqT su Sr3, .inl (.inl upd_same), ⟨by omega, by omega⟩, ⟨by omega, by omega⟩, _, rfl, ?_⟩
      have hle := top_prices ok ng topU pra prc hy hW ea ec
      rw [decide_eq_false (show ¬ pa * lowd (num os U) (den os U) < lown (num os U) (den os U) * pc by omega)]
      refine ⟨_, rfl, iteT ⟨_, rfl, _, rfl, rfl, _, rfl, ?_⟩⟩
      have s04 := s03.trans su
      by_cases hac : a = c
      · subst hac
        have eU := top_self topU
        subst eU
        have e : (!decide (V.int a = V.int a)) = false := by rw [decide_eq_true rfl]; rfl
        rw [e]
        refine iteF ⟨_, rfl, (by show 2 ≤ sizeLine; decide), fun z nz => ?_⟩
        have sz := same_upd (o := .tup [.int 1, .int 1]) nz
        have e1 : lown (num os []) (den os []) = 1 := (by decide : lown 1 1 = 1)
        have e2 : lowd (num os []) (den os []) = 1 := (by decide : lowd 1 1 = 1)
        rw [e1, e2] at Sr3
        refine ⟨.tuple [.int 1, .int 1], .tuple [.int 1, .int 1], .tup (same_seqT (su.trans sz) Sr3) (.cons (.int 1) (.cons (.int 1) .nil)), .tup (.inl (.inl upd_same)) (.cons (.int 1) (.cons (.int 1) .nil)), by decide +kernel, by decide +kernel, ?_⟩
        have e3 : PyData.eqv (.tuple [.int 1, .int 1]) (.tuple [.int 1, .int 1]) = true := by simp [PyData.eqv, PyData.eqvAll]
        rw [e3]
        exact q _ (s04.trans sz)
      · have e : (!decide (V.int a = V.int c)) = true := by
          rw [decide_eq_false fun z => hac (V.int.inj z)]
          rfl
        rw [e]
        exact iteT (q _ s04)
end
end Sm
end
section
set_option Elab.async false
set_option linter.all false
set_option maxRecDepth 100000
set_option maxHeartbeats 4000000
namespace Sm
open PySem PySem.Spec PyProof.Rows L2 SmR
section
variable {P : Program} {w : World} {K : PySem.W.Frag} {mg : Str → Option Value} {base : Heap}
/-! ### _law_thirds -/
def spThirds (K : PySem.W.Frag) : Sp := fun vs H Q _ => ∃ (p tb : Addr) (k a c : Int) (os : List Off), vs = [.ref p, .ref tb, .int a, .int c] ∧ BoardAt K H p k os ∧ OsOk k os ∧ (∀ c, NoGain os c) ∧ TabAt K H tb k os ∧
  0 ≤ a ∧ a < k ∧ 0 ≤ c ∧ c < k ∧ ∀ H', Same H H' → Q (.bl true) H'
theorem dec_ref (x : Addr) : decide (V.ref x = V.non) = false := decide_eq_false (by intro z; cases z)
theorem ok_LawThirds (D : Dfn K mg "_law_thirds" sLawThirds ["_law_board_here", "_law_table", "_law_a", "_law_c"]) (GLawMore : Ok P w K mg base 1 "_law_more" ["_law_one", "_law_other"] (spMore K)) (GLawTimes : Ok P w K mg base 1 "_law_times" ["_law_one", "_law_other"] (spTimes K))
    (mrange : mg "range" = none) : Ok P w K mg base 2 "_law_thirds" ["_law_board_here", "_law_table", "_law_a", "_law_c"] (spThirds K) := by
  refine ok_by D scLawThirds (fun vs H Q E h => ?_) (fun f cdv A outer s H vs Q E hr h => ?_)
  · obtain ⟨p, tb, k, a, c, os, rfl, _⟩ := h
    rfl
  · obtain ⟨p, tb, k, a, c, os, rfl, B, ok, ng, TB, ha0, ha1, hc0, hc1, q⟩ := h
    have hk2 := ok.k2
    have hk4 := ok.k4
    refine ⟨_, (pss_cons (ps_for PassesOwn.never rfl (pi_range1 rfl mrange (pa_cons (pe_ix ix_tup (pv 0) pe_int (fun _ _ => rfl)) pa_nil)) (pg_name (i := 4) scLawThirds.nd rfl (.inl rfl))
      (pss_one (ps_if (PW.pt (pw_and (pt_cmpR op_notN (pe_ix ix_list (pe_ix ix_list (pv 1) (pv 2) (fun _ _ => rfl)) (pv 4) (fun _ _ => rfl)) pe_non (nomark _)) (pw_and1 (pt_cmpR op_notN (pe_ix ix_list (pe_ix ix_list (pv 1) (pv 4) (fun _ _ => rfl)) (pv 3) (fun _ _ => rfl)) pe_non (nomark _))))) (pss_one (ps_if (pt_val (pe_ok GLawMore (hr.mono (by decide)) (by rfl) (pa_cons (pe_ok GLawTimes (hr.mono (by decide)) (by rfl) (pa_cons (pe_ix ix_list (pe_ix ix_list (pv 1) (pv 2) (fun _ _ => rfl)) (pv 4) (fun _ _ => rfl)) (pa_cons (pe_ix ix_list (pe_ix ix_list (pv 1) (pv 4) (fun _ _ => rfl)) (pv 3) (fun _ _ => rfl)) pa_nil))) (pa_cons (pe_ix ix_list (pe_ix ix_list (pv 1) (pv 2) (fun _ _ => rfl)) (pv 3) (fun _ _ => rfl)) pa_nil)))) (pss_one (ps_ret pe_bl)) pss_nil)) pss_nil)))
    (pss_cons (ps_for PassesOwn.never rfl (pi_tup (pe_ix ix_tup (pv 0) pe_int (fun _ _ => rfl))) (pg_tup rfl (pgs_cons (pg_name (i := 5) scLawThirds.nd rfl (.inl rfl)) (pgs_cons (pg_name (i := 6) scLawThirds.nd rfl (.inl rfl)) (pgs_cons (pg_name (i := 7) scLawThirds.nd rfl (.inl rfl)) (pgs_cons (pg_name (i := 8) scLawThirds.nd rfl (.inl rfl)) pgs_nil)))))
      (pss_one (ps_if (PW.pt (pw_and (pt_cmpR op_eq (pv 5) (pv 2) (nomark _)) (pw_and (pt_cmpR op_gt (pv 8) pe_int (nomark _)) (pw_and1 (pt_cmpR op_notN (pe_ix ix_list (pe_ix ix_list (pv 1) (pv 7) (fun _ _ => rfl)) (pv 3) (fun _ _ => rfl)) pe_non (nomark _)))))) (pss_one (ps_if (pt_val (pe_ok GLawMore (hr.mono (by decide)) (by rfl) (pa_cons (pe_ok GLawTimes (hr.mono (by decide)) (by rfl) (pa_cons (pe_tup (pa_cons (pv 8) (pa_cons (pv 6) pa_nil))) (pa_cons (pe_ix ix_list (pe_ix ix_list (pv 1) (pv 7) (fun _ _ => rfl)) (pv 3) (fun _ _ => rfl)) pa_nil))) (pa_cons (pe_ix ix_list (pe_ix ix_list (pv 1) (pv 2) (fun _ _ => rfl)) (pv 3) (fun _ _ => rfl)) pa_nil)))) (pss_one (ps_ret pe_bl)) pss_nil)) pss_nil)))
    (pss_one (ps_ret pe_bl)))), ?_⟩
    refine rd_k rfl B ⟨k, rfl, by omega, by omega, for_range (lo := 0) (n := k.toNat)
      (fun i σ H' => ∃ x4, σ = [some (.ref p), some (.ref tb), some (.int a), some (.int c), x4, none, none, none, none] ∧ Same H H') ⟨none, rfl, Same.refl H⟩ ?_ ?_⟩
    · rintro i σ H' hi ⟨x4, rfl, sm⟩
      have TB' := TB.same sm
      obtain ⟨b, hb⟩ : ∃ b : Int, 0 + (i : Int) = b := ⟨_, rfl⟩
      have hb0 : 0 ≤ b := by omega
      have hb1 : b < k := by omega
      rw [hb]
      refine rd_tab rfl TB' ha0 ha1 hb0 hb1 (rd_var rfl) (rd_var rfl) fun v1 ev1 => ⟨rfl, _, rfl, ?_⟩
      have done : ∃ x4, [some (V.ref p), some (.ref tb), some (.int a), some (.int c), some (.int b), none, none, none, none] = [some (.ref p), some (.ref tb), some (.int a), some (.int c), x4, none, none, none, none] ∧ Same H H' := ⟨_, rfl, sm⟩
      rcases ev1 with ⟨rfl, _⟩ | ⟨r1, T1, rfl, S1, t1⟩
      · exact iteNS rfl (iteF done)
      rw [dec_ref]
      refine iteT (rd_tab rfl TB' hb0 hb1 hc0 hc1 (rd_var rfl) (rd_var rfl) fun v2 ev2 => ⟨rfl, _, rfl, ?_⟩)
      rcases ev2 with ⟨rfl, _⟩ | ⟨r2, T2, rfl, S2, t2⟩
      · exact iteNS rfl done
      rw [dec_ref]
      have rab := t1.reach
      have rbc := t2.reach
      refine iteT (rd_tab rfl TB' ha0 ha1 hb0 hb1 (rd_var rfl) (rd_var rfl) fun v3 ev3 => ?_)
      obtain ⟨r3, T3, rfl, S3, t3⟩ := ev3.ref rab
      refine rd_tab rfl TB' hb0 hb1 hc0 hc1 (rd_var rfl) (rd_var rfl) fun v4 ev4 => ?_
      obtain ⟨r4, T4, rfl, S4, t4⟩ := ev4.ref rbc
      have b3 := top_bd ok ha0 ha1 t3
      have b4 := top_bd ok hb0 hb1 t4
      refine ⟨r3, r4, _, _, _, _, rfl, S3, S4, ⟨by omega, by omega⟩, ⟨by omega, by omega⟩, fun u nu => ?_⟩
      have su := same_upd (o := .tup [.int (lown (num os T3) (den os T3) * lown (num os T4) (den os T4)), .int (lowd (num os T3) (den os T3) * lowd (num os T4) (den os T4))]) nu
      refine rd_tab rfl (TB'.same su) ha0 ha1 hc0 hc1 (rd_var rfl) (rd_var rfl) fun v5 ev5 => ?_
      obtain ⟨r5, T5, rfl, S5, t5⟩ := ev5.ref (rab.trans rbc)
      have m1 := Int.mul_le_mul b3.2.1 b4.2.1 (by omega) (by decide)
      have m2 := Int.mul_le_mul b3.2.2.2 b4.2.2.2 (by omega) (by decide)
      have m3 := Int.mul_pos (show 0 < lown (num os T3) (den os T3) by omega) (show 0 < lown (num os T4) (den os T4) by omega)
      have m4 := Int.mul_pos (show 0 < lowd (num os T3) (den os T3) by omega) (show 0 < lowd (num os T4) (den os T4) by omega)
      refine ⟨u, r5, _, _, _, _, rfl, .inl (.inl upd_same), S5, ⟨by omega, by omega⟩, ⟨by omega, by omega⟩, _, rfl, ?_⟩
      have no := third_low ok (n1 := num os T3) (d1 := den os T3) (n2 := num os T4) (d2 := den os T4) (den_pos ok T3) (den_pos ok T4) (top_third ok ng t3 t4 t5)
      rw [decide_eq_false no]
      exact iteF ⟨_, rfl, sm.trans su⟩
    · rintro σ H' ⟨x4, rfl, sm⟩
      have TB' := TB.same sm
      have B' := B.same sm
      obtain ⟨u, vs, h1, h2, h3, h4⟩ := B'
      refine ⟨_, rfl, p, _, 1, .ref u, rfl, rfl, h1, atI_nat (j := 1) rfl, u, rfl, ⟨_, h2⟩, for_tup (K := K) (a := u) (xs := vs)
        (fun i σ H2 => ∃ x5 x6 x7 x8, σ = [some (.ref p), some (.ref tb), some (.int a), some (.int c), x4, x5, x6, x7, x8] ∧ Same H' H2) ⟨none, none, none, none, rfl, Same.refl H'⟩ (fun i σ H2 _ ⟨_, _, _, _, _, e⟩ => same_seqT e h2) ?_ ?_⟩
      · rintro i x σ H2 hx ⟨x5, x6, x7, x8, rfl, s2⟩
        have hi : i < os.length := by
          have := (List.getElem?_eq_some_iff.mp hx).1
          omega
        obtain ⟨r, er, sr⟩ := h4 i hi
        have ext : x = .ref r := Option.some.inj (hx.symm.trans er)
        subst ext
        have off_i := ok.each i hi
        refine ⟨r, ov (off os i), rfl, same_seqT s2 sr, rfl, _, _, rfl, _, _, rfl, _, _, rfl, _, _, rfl, rfl, ?_⟩
        have TB2 := TB'.same s2
        have done : ∃ x5 x6 x7 x8, [some (V.ref p), some (.ref tb), some (.int a), some (.int c), x4, some (.int (off os i).a), some (.int (off os i).x), some (.int (off os i).b), some (.int (off os i).y)] = [some (.ref p), some (.ref tb), some (.int a), some (.int c), x4, x5, x6, x7, x8] ∧ Same H' H2 :=
          ⟨_, _, _, _, rfl, s2⟩
        refine ⟨_, rfl, _, rfl, rfl, _, rfl, ?_⟩
        by_cases he : (off os i).a = a
        · rw [decide_eq_true (congrArg V.int he)]
          refine iteT ⟨_, rfl, _, _, rfl, rfl, _, rfl, ?_⟩
          by_cases hy : 0 < (off os i).y
          · rw [decide_eq_true hy]
            have hb0 := off_i.2.2.1
            have hb1 := off_i.2.2.2.1
            refine iteT (rd_tab rfl TB2 hb0 hb1 hc0 hc1 (rd_var rfl) (rd_var rfl) fun v2 ev2 => ⟨rfl, _, rfl, ?_⟩)
            rcases ev2 with ⟨rfl, _⟩ | ⟨r2, T2, rfl, S2, t2⟩
            · exact iteNS rfl done
            rw [dec_ref]
            have gi : Giv os i := ⟨hi, hy⟩
            have rac : Reach os a c := by
              have z : Reach os (src os i) (dst os i) := Reach.step gi (Reach.refl _)
              have e : src os i = a := he
              rw [e] at z
              exact z.trans t2.reach
            refine iteT ⟨_, rfl, _, rfl, (by show 2 ≤ sizeLine; decide), fun g ngg => ?_⟩
            have sg := same_upd (o := .tup [.int (off os i).y, .int (off os i).x]) ngg
            refine rd_tab rfl (TB2.same sg) hb0 hb1 hc0 hc1 (rd_var rfl) (rd_var rfl) fun v4 ev4 => ?_
            obtain ⟨r4, T4, rfl, S4, t4⟩ := ev4.ref t2.reach
            have b4 := top_bd ok hb0 hb1 t4
            refine ⟨g, r4, _, _, _, _, rfl, .inl (.inl upd_same), S4, ⟨by omega, by omega⟩, ⟨by omega, by omega⟩, fun u2 nu2 => ?_⟩
            have su2 := same_upd (o := .tup [.int ((off os i).y * lown (num os T4) (den os T4)), .int ((off os i).x * lowd (num os T4) (den os T4))]) nu2
            refine rd_tab rfl ((TB2.same sg).same su2) ha0 ha1 hc0 hc1 (rd_var rfl) (rd_var rfl) fun v5 ev5 => ?_
            obtain ⟨r5, T5, rfl, S5, t5⟩ := ev5.ref rac
            have m1 := Int.mul_le_mul off_i.2.2.2.2.2.2.2 b4.2.1 (by omega) (by decide)
            have m2 := Int.mul_le_mul off_i.2.2.2.2.2.1 b4.2.2.2 (by omega) (by decide)
            have m3 := Int.mul_pos hy (show 0 < lown (num os T4) (den os T4) by omega)
            have m4 := Int.mul_pos (show 0 < (off os i).x by omega) (show 0 < lowd (num os T4) (den os T4) by omega)
            refine ⟨u2, r5, _, _, _, _, rfl, .inl (.inl upd_same), S5, ⟨by omega, by omega⟩, ⟨by omega, by omega⟩, _, rfl, ?_⟩
            have no : ¬ lown (num os T5) (den os T5) * ((off os i).x * lowd (num os T4) (den os T4)) < (off os i).y * lown (num os T4) (den os T4) * lowd (num os T5) (den os T5) := by
              have tl := third_low ok (n1 := (off os i).y) (d1 := (off os i).x) (n2 := num os T4) (d2 := den os T4) (by omega) (den_pos ok T4) (top_offer ok ng gi he t4 t5)
              intro z
              refine tl ?_
              obtain ⟨e1, e2⟩ := low_spec (n := (off os i).y) (d := (off os i).x) (by omega)
              have gp := gcd_pos (n := (off os i).y) (d := (off os i).x) (by omega)
              generalize lown (off os i).y (off os i).x = x1 at *
              generalize lowd (off os i).y (off os i).x = y1 at *
              generalize ((Int.gcd (off os i).y (off os i).x : Nat) : Int) = g1 at *
              refine Int.lt_of_mul_lt_mul_right (a := g1) ?_ (Int.le_of_lt gp)
              rw [← e1, ← e2] at z
              have z1 : lown (num os T5) (den os T5) * (y1 * lowd (num os T4) (den os T4)) * g1 = lown (num os T5) (den os T5) * (y1 * g1 * lowd (num os T4) (den os T4)) := by grind
              have z2 : x1 * lown (num os T4) (den os T4) * lowd (num os T5) (den os T5) * g1 = x1 * g1 * lown (num os T4) (den os T4) * lowd (num os T5) (den os T5) := by grind
              rw [z1, z2]
              exact z
            rw [decide_eq_false no]
            exact iteF ⟨_, _, _, _, rfl, (s2.trans sg).trans su2⟩
          · rw [decide_eq_false hy]
            exact iteF (iteF done)
        · rw [decide_eq_false fun z => he (V.int.inj z)]
          exact iteF (iteF done)
      · rintro σ H2 ⟨x5, x6, x7, x8, rfl, s2⟩
        exact q H2 (sm.trans s2)
end
end Sm
end
section
set_option Elab.async false
set_option linter.all false
set_option maxRecDepth 100000
set_option maxHeartbeats 4000000
namespace Sm
open PySem PySem.Spec PyProof.Rows L2 SmR
section
variable {K : PySem.W.Frag} {H : Hp} {k : Int} {os : List Off}
theorem RowAt.wr {ra t : Addr} {a : Int} {ys zs : List V} (h : RowAt K H ra k os a) (n : ra ≠ t) (e : H t = some (.lst ys)) : RowAt K (upd H t (.lst zs)) ra k os a := by
  obtain ⟨es, h1, h2, h3⟩ := h
  refine ⟨es, by rw [upd_ne n]; exact h1, h2, fun c c0 c1 => ?_⟩
  obtain ⟨v, e1, e2⟩ := h3 c c0 c1
  refine ⟨v, e1, ?_⟩
  rcases e2 with e2 | ⟨r, T, x1, x2, x3⟩
  · exact .inl e2
  · exact .inr ⟨r, T, x1, seqT_wr x2 e, x3⟩
theorem EntAt.wr {t : Addr} {v : V} {a c : Int} {ys zs : List V} (h : EntAt K H v os a c) (e : H t = some (.lst ys)) : EntAt K (upd H t (.lst zs)) v os a c := by
  rcases h with e2 | ⟨r, T, x1, x2, x3⟩
  · exact .inl e2
  · exact .inr ⟨r, T, x1, seqT_wr x2 e, x3⟩
theorem BoardAt.wr {p t : Addr} {ys zs : List V} (h : BoardAt K H p k os) (e : H t = some (.lst ys)) : BoardAt K (upd H t (.lst zs)) p k os := by
  obtain ⟨u, vs, h1, h2, h3, h4⟩ := h
  refine ⟨u, vs, seqT_wr h1 e, seqT_wr h2 e, h3, fun i hi => ?_⟩
  obtain ⟨r, e1, e2⟩ := h4 i hi
  exact ⟨r, e1, seqT_wr e2 e⟩
end
theorem atI_end {xs : List V} {n : Nat} {v : V} (hl : xs.length = n + 1) (h : xs[n]? = some v) : atI xs (-1) = some v := by
  have hne : xs ≠ [] := fun z => by
    rw [z] at hl
    cases hl
  have e : xs = xs.dropLast ++ [xs.getLast hne] := (List.dropLast_concat_getLast hne).symm
  have e2 : xs.getLast hne = v := by
    rw [List.getLast_eq_getElem]
    have h' := (List.getElem?_eq_some_iff.mp h).2
    rw [← h']
    congr 1
    omega
  rw [e2] at e
  have z := atI_last xs.dropLast v
  rw [← e] at z
  exact z
section
variable {P : Program} {w : World} {K : PySem.W.Frag} {mg : Str → Option Value} {base : Heap}
/-! ### _law_right -/
def spRight (K : PySem.W.Frag) : Sp := fun vs H Q _ => ∃ (p : Addr) (k : Int) (os : List Off), vs = [.ref p] ∧ BoardAt K H p k os ∧ OsOk k os ∧ ∀ H', Same H H' → Q (.bl true) H'
theorem ok_LawRight (D : Dfn K mg "_law_right" sLawRight ["_law_board_here"]) (GWorths : Ok P w K mg base 8 "worths" ["board"] (spWorths K)) (GRatio : Ok P w K mg base 10 "ratio" ["board", "one", "other"] (spRat K))
    (GLawPair : OkG P w K mg base 10 "_law_pair" ["_law_board_here", "_law_prices", "_law_table", "_law_a", "_law_c"] (spPair K)) (GLawThirds : Ok P w K mg base 2 "_law_thirds" ["_law_board_here", "_law_table", "_law_a", "_law_c"] (spThirds K))
    (mrange : mg "range" = none) : OkG P w K mg base 11 "_law_right" ["_law_board_here"] (spRight K) := by
  refine ok_byG D scLawRight (fun vs H Q E h => ?_) (fun f cdv A outer s H vs Q E hgd hr h => ?_)
  · obtain ⟨p, k, os, rfl, _⟩ := h
    rfl
  · obtain ⟨p, k, os, rfl, B, ok, q⟩ := h
    have hk2 := ok.k2
    have hk4 := ok.k4
    refine ⟨_, (pss_cons (ps_set (i := 1) scLawRight.nd rfl (.inl rfl) (pe_ok GWorths (hr.mono (by decide)) (by rfl) (pa_cons (pv 0) pa_nil)))
    (pss_cons (ps_if (pt_cmpR op_ne (pe_ix ix_tup (pv 1) pe_int (fun _ _ => rfl)) pe_str (nomark _)) (pss_one (ps_ret pe_bl)) pss_nil)
    (pss_cons (ps_set (i := 2) scLawRight.nd rfl (.inl rfl) (pe_lst pa_nil))
    (pss_cons (ps_for PassesOwn.never rfl (pi_range1 rfl mrange (pa_cons (pe_ix ix_tup (pv 0) pe_int (fun _ _ => rfl)) pa_nil)) (pg_name (i := 3) scLawRight.nd rfl (.inr rfl))
      (pss_one (ps_expr (pe_bm PySem.F.plainAttrs_list PySem.F.slot_list_append PySem.F.type_list_append mt_append (pv 2) (pa_cons (pe_lc (own := [("_law_c", 4)]) (g := gName 4) (tt := tYes) rfl scLawRight.nd (pi_range1 rfl mrange (pa_cons (pe_ix ix_tup (pv 0) pe_int (fun _ _ => rfl)) pa_nil)) (blkOk_by (N := nLawRight) (sc := defScope sLawRight) (by decide +kernel)) (fun _ _ _ _ _ => (pg_name (i := 4) scLawRight.nd rfl (.inl rfl))) (fun _ _ _ _ _ => pts_nil) (fun _ _ _ _ _ => (pe_ok GRatio (hr.mono (by decide)) (by rfl) (pa_cons (pv 0) (pa_cons (pv 3) (pa_cons (pv 4) pa_nil)))))) pa_nil)))))
    (pss_cons (ps_for PassesOwn.never rfl (pi_range1 rfl mrange (pa_cons (pe_ix ix_tup (pv 0) pe_int (fun _ _ => rfl)) pa_nil)) (pg_name (i := 3) scLawRight.nd rfl (.inr rfl))
      (pss_one (ps_for PassesOwn.never rfl (pi_range1 rfl mrange (pa_cons (pe_ix ix_tup (pv 0) pe_int (fun _ _ => rfl)) pa_nil)) (pg_name (i := 4) scLawRight.nd rfl (.inl rfl))
      (pss_one (ps_if (PW.pt (pw_or (pt_not (pt_val (pe_okG GLawPair hgd (hr.mono (by decide)) (by rfl) (pa_cons (pv 0) (pa_cons (pe_ix ix_tup (pv 1) pe_int (fun _ _ => rfl)) (pa_cons (pv 2) (pa_cons (pv 3) (pa_cons (pv 4) pa_nil)))))))) (pw_or1 (pt_not (pt_val (pe_ok GLawThirds (hr.mono (by decide)) (by rfl) (pa_cons (pv 0) (pa_cons (pv 2) (pa_cons (pv 3) (pa_cons (pv 4) pa_nil)))))))))) (pss_one (ps_ret pe_bl)) pss_nil)))))
    (pss_one (ps_ret pe_bl))))))), ?_⟩
    refine ⟨_, rfl, p, k, os, rfl, B, ok, fun H1 r pq ps s1 ng S1 S2 pr => ?_, fun H1 r t s1 hg S1 => ?_⟩
    · refine rd_tup (j := 0) rfl S1 rfl ⟨rfl, _, rfl, iteNS rfl ?_⟩
      refine ⟨Nat.zero_le _, fun t nt => ?_⟩
      have zt := same_upd (o := .lst []) nt
      have B1 := B.same s1
      refine rd_k rfl (B1.same zt) ⟨k, rfl, by omega, by omega, for_range (lo := 0) (n := k.toNat)
        (fun i σ H2 => ∃ x3, σ = [some (.ref p), some (.ref r), some (.ref t), x3, none] ∧ Same H1 H2 ∧ ∃ rs, H2 t = some (.lst rs) ∧ rs.length = i ∧ ∀ a : Nat, a < i → ∃ ra, rs[a]? = some (.ref ra) ∧ RowAt K H2 ra k os (a : Int) ∧ ra ≠ t)
        ⟨none, rfl, zt, [], upd_same, rfl, fun a h => absurd h (Nat.not_lt_zero _)⟩ ?_ ?_⟩
      · rintro i σ H2 hi ⟨x3, rfl, s2, rs, et, hrl, hrs⟩
        have B2 := B1.same s2
        refine ⟨_, rfl, .inl ⟨rfl, _, SqL.of et⟩, ?_⟩
        refine rd_k rfl B2 ⟨k, rfl, by omega, by omega, fun L nL => ?_⟩
        have zL := same_upd (o := .lst []) nL
        have hLt : L ≠ t := fun z => by
          rw [z, et] at nL
          cases nL
        refine lc_range (lo := 0) (n := k.toNat) (fun j H3 => Same H2 H3 ∧ ∃ es, H3 L = some (.lst es) ∧ es.length = j ∧ ∀ c : Nat, c < j → ∃ v, es[c]? = some v ∧ EntAt K H3 v os (i : Int) (c : Int))
          ⟨zL, [], upd_same, rfl, fun c h => absurd h (Nat.not_lt_zero _)⟩ ?_ ?_
        · rintro j H3 hj ⟨s3, es, eL, hel, hes⟩
          refine ⟨rfl, ?_⟩
          refine yesT ?_
          have grow : ∀ (H4 : Hp) (v : V), Same H3 H4 → EntAt K H4 v os (i : Int) (j : Int) → ∃ acc, H4 L = some (.lst acc) ∧ acc.length < sizeLine ∧ (Same H2 (upd H4 L (.lst (acc ++ [v]))) ∧ ∃ es, (upd H4 L (.lst (acc ++ [v]))) L = some (.lst es) ∧ es.length = j + 1 ∧
              ∀ c : Nat, c < j + 1 → ∃ u, es[c]? = some u ∧ EntAt K (upd H4 L (.lst (acc ++ [v]))) u os (i : Int) (c : Int)) := by
            intro H4 v s4 ev
            have eL4 := s4 _ _ eL
            refine ⟨es, eL4, small1000 (by omega), same_put (s3.trans s4) nL, es ++ [v], upd_same, by rw [List.length_append, List.length_singleton, hel], fun c hc => ?_⟩
            by_cases hcj : c < j
            · obtain ⟨u, e1, e2⟩ := hes c hcj
              exact ⟨u, by rw [List.getElem?_append_left (by omega)]; exact e1, (e2.same s4).wr eL4⟩
            · have : c = j := by omega
              subst this
              exact ⟨v, by rw [List.getElem?_append_right (by omega), hel, Nat.sub_self]; rfl, ev.wr eL4⟩
          refine ⟨_, rfl, _, rfl, _, rfl, p, k, 0 + (i : Int), 0 + (j : Int), os, rfl, B2.same s3, ok, by omega, by omega, by omega, by omega, ng, fun H4 s4 hn => ?_, fun H4 r4 T s4 e4 top => ?_⟩
          · rw [Int.zero_add, Int.zero_add] at hn
            exact grow H4 .non s4 (.inl ⟨rfl, hn⟩)
          · rw [Int.zero_add, Int.zero_add] at top
            exact grow H4 (.ref r4) s4 (.inr ⟨r4, T, rfl, .inl (.inl e4), top⟩)
        · rintro H3 ⟨s3, es, eL, hel, hes⟩
          have et3 := s3 _ _ et
          refine ⟨t, rs, .ref L, rfl, rfl, et3, small1000 (by omega), some (.int (0 + (i : Int))), rfl, same_put (s2.trans s3) nt, rs ++ [.ref L], upd_same, by rw [List.length_append, List.length_singleton, hrl], fun a ha => ?_⟩
          by_cases hai : a < i
          · obtain ⟨ra, e1, e2, e3⟩ := hrs a hai
            exact ⟨ra, by rw [List.getElem?_append_left (by omega)]; exact e1, (e2.same s3).wr e3 et3, e3⟩
          · have : a = i := by omega
            subst this
            refine ⟨L, by rw [List.getElem?_append_right (by omega), hrl, Nat.sub_self]; rfl, RowAt.wr ⟨es, eL, hel, fun c c0 c1 => ?_⟩ hLt et3, hLt⟩
            obtain ⟨v, e1, e2⟩ := hes c.toNat (by omega)
            rw [show ((c.toNat : Nat) : Int) = c by omega] at e2
            exact ⟨v, e1, e2⟩
      · rintro σ H2 ⟨x3, rfl, s2, rs, et, hrl, hrs⟩
        have TB : TabAt K H2 t k os := ⟨rs, et, hrl, fun a a0 a1 => by
          obtain ⟨ra, e1, e2, _⟩ := hrs a.toNat (by omega)
          rw [show ((a.toNat : Nat) : Int) = a by omega] at e2
          exact ⟨ra, e1, e2⟩⟩
        have B2 := B1.same s2
        refine rd_k rfl B2 ⟨k, rfl, by omega, by omega, for_range (lo := 0) (n := k.toNat)
          (fun i σ H3 => ∃ x3 x4, σ = [some (.ref p), some (.ref r), some (.ref t), x3, x4] ∧ Same H2 H3) ⟨x3, none, rfl, Same.refl H2⟩ ?_ ?_⟩
        · rintro i σ H3 hi ⟨x3, x4, rfl, s3⟩
          refine rd_k rfl (B2.same s3) ⟨k, rfl, by omega, by omega, for_range (lo := 0) (n := k.toNat)
            (fun j σ H4 => ∃ x4, σ = [some (.ref p), some (.ref r), some (.ref t), some (.int (0 + (i : Int))), x4] ∧ Same H2 H4) ⟨x4, rfl, s3⟩ ?_ ?_⟩
          · rintro j σ H4 hj ⟨x4, rfl, s4⟩
            have S14 := same_seqT (s2.trans s4) S1
            refine ⟨_, rfl, rd_tup (j := 1) rfl S14 rfl ⟨_, rfl, _, rfl, _, rfl, p, pq, t, k, 0 + (i : Int), 0 + (j : Int), os, ps, rfl, B2.same s4, ok, ng, same_seqT (s2.trans s4) S2, pr, TB.same s4, by omega, by omega, by omega, by omega, fun H5 s5 => ⟨_, rfl, iteF ?_⟩⟩⟩
            refine ⟨_, rfl, _, rfl, _, rfl, _, rfl, p, t, k, 0 + (i : Int), 0 + (j : Int), os, rfl, (B2.same s4).same s5, ok, ng, (TB.same s4).same s5, by omega, by omega, by omega, by omega, fun H6 s6 => ⟨_, rfl, iteF ?_⟩⟩
            exact ⟨_, rfl, (s4.trans s5).trans s6⟩
          · rintro σ H4 ⟨x4, rfl, s4⟩
            exact ⟨_, _, rfl, s4⟩
        · rintro σ H3 ⟨x3, x4, rfl, s3⟩
          exact q H3 ((s1.trans s2).trans s3)
    · refine rd_tup (j := 0) rfl S1 rfl ⟨rfl, _, rfl, ?_⟩
      have e : (!decide (V.str ("loop" : Str) = V.str ("prices" : Str))) = true := by decide +kernel
      rw [e]
      exact iteT (q H1 s1)
/-! ### law -/
def spLaw (K : PySem.W.Frag) : Sp := fun vs H Q _ => ∃ (s : Addr) (ns : List Int), vs = [.ref s] ∧ SqL K H s (ns.map V.int) ∧ ns.length ≤ 63 ∧ ∀ H', Q (.bl true) H'
theorem ok_Law {f0 : Addr} {fd0 : FuncData} (F : Fun K "law" "law" sLaw f0 fd0) (GLawDeck : Ok P w K mg base 1 "_law_deck" ["_law_script"] (spDeck K)) (GLawSome : Ok P w K mg base 4 "_law_some" ["_law_deck_here", "_law_turn"] (spSome K)) (GLawRight : OkG P w K mg base 11 "_law_right" ["_law_board_here"] (spRight K))
    (GWorths : Ok P w K mg base 8 "worths" ["board"] (spWorths K)) (mrange : mg "range" = none) (mall : mg "all" = none) : FnG P w K mg base CX0 12 f0 fd0 ["_law_script"] (spLaw K) := by
  refine fun_okG F scLaw (fun vs H Q E h => ?_) (fun cdv A outer s H vs Q E hgd hr h => ?_)
  · obtain ⟨sc, ns, rfl, _⟩ := h
    rfl
  · obtain ⟨sc, ns, rfl, S, hl, q⟩ := h
    refine ⟨_, (pss_cons (ps_set (i := 1) scLaw.nd rfl (.inr rfl) (pe_ok GLawDeck (hr.mono (by decide)) (by rfl) (pa_cons (pv 0) pa_nil)))
    (pss_cons (ps_setLc (i := 2) (own := [("_law_turn", 3)]) (g := gName 3) (tt := tYes) rfl scLaw.nd rfl rfl (sw_true rfl rfl rfl (by decide +kernel)) (pi_range1 rfl mrange (pa_cons pe_int pa_nil)) (blkOk_by (N := nLaw) (sc := defScope sLaw) (by decide +kernel)) (fun _ _ _ _ _ => (pg_name (i := 3) scLaw.nd rfl (.inl rfl))) (fun _ _ _ _ _ => pts_nil) (fun _ _ _ _ _ => (pe_ix (ixT (K := K) rfl) (pe_ok GLawSome (hr.mono (by decide)) (by rfl) (pa_cons (pv 1) (pa_cons (pv 3) pa_nil))) pe_int (fun _ _ => rfl))))
    (pss_one (ps_ret (pe_and (pe_callB (cr_all rfl) (by rfl) mall (by decide +kernel) (pa_cons (pe_lc (own := [("_law_board_here", 4)]) (g := gName 4) (tt := tYes) rfl scLaw.nd (pi_list (pv 2)) (blkOk_by (N := nLaw) (sc := defScope sLaw) (by decide +kernel)) (fun _ _ _ _ _ => (pg_name (i := 4) scLaw.nd rfl (.inl rfl))) (fun _ _ _ _ _ => pts_nil) (fun _ _ _ _ _ => (pe_okG GLawRight hgd (hr.mono (by decide)) (by rfl) (pa_cons (pv 4) pa_nil)))) pa_nil)) (pe_one (pe_cmpR op_eq (pe_ix ix_tup (pe_ok GWorths (hr.mono (by decide)) (by rfl) (pa_cons (pe_ix ix_list (pv 2) (pe_un un_neg pe_int) (fun _ _ => rfl)) pa_nil)) pe_int (fun _ _ => rfl)) pe_str (nomark _)))))))), ?_⟩
    refine ⟨_, rfl, sc, ns, rfl, S, hl, fun H1 d c cs s1 nd nc D1 => ?_⟩
    refine ⟨14, rfl, by decide, by decide, fun L nL => ?_⟩
    have zL := same_upd (o := .lst []) nL
    have hLd : L ≠ d := fun z => by
      rw [z, D1.hd] at nL
      cases nL
    have hLc : L ≠ c := fun z => by
      rw [z, D1.hc] at nL
      cases nL
    refine lc_range (lo := 0) (n := 14) (fun i H2 => ∃ cs' n' us, DeckAt H2 d c cs' n' ∧ n' ≤ 200 * i ∧ H2 L = some (.lst us) ∧ us.length = i ∧ ∀ j : Nat, j < i → ∃ b k os, us[j]? = some (.ref b) ∧ BoardAt K H2 b k os ∧ OsOk k os ∧ (3 ≤ j → Fair os))
      ⟨cs, 0, [], D1.same zL, by omega, upd_same, rfl, fun j h => absurd h (Nat.not_lt_zero _)⟩ ?_ ?_
    · rintro i H2 hi ⟨cs2, n2, us, D2, hn2, eL, hul, hus⟩
      refine ⟨rfl, ?_⟩
      refine yesT ?_
      refine ⟨_, rfl, _, rfl, d, c, cs2, n2, 0 + (i : Int), rfl, D2, by omega, fun H3 r b x cs3 n3 k os b3 D3 hn3 S3 B3 ok3 f3 => ?_⟩
      have eL3 := b3 _ _ hLd hLc eL
      refine ⟨r, _, 0, .ref b, rfl, rfl, S3, atI_nat (j := 0) rfl, us, eL3, small1000 (by omega), cs3, n3, us ++ [.ref b], D3.put hLd hLc, by omega, upd_same, by rw [List.length_append, List.length_singleton, hul], fun j hj => ?_⟩
      by_cases hji : j < i
      · obtain ⟨b', k', os', e1, e2, e3, e4⟩ := hus j hji
        exact ⟨b', k', os', by rw [List.getElem?_append_left (by omega)]; exact e1, (b3.board D2 e2).wr eL3, e3, e4⟩
      · have : j = i := by omega
        subst this
        exact ⟨b, k, os, by rw [List.getElem?_append_right (by omega), hul, Nat.sub_self]; rfl, B3.wr eL3, ok3, fun h => f3 (by omega)⟩
    · rintro H2 ⟨cs2, n2, us, D2, hn2, eL, hul, hus⟩
      refine ⟨_, rfl, L, rfl, ⟨_, SqL.of eL⟩, fun M nM => ?_⟩
      have zM := same_upd (o := .lst []) nM
      refine lc_list (K := K) (a := L) (xs := us) (fun i H3 => Same H2 H3 ∧ H3 M = some (.lst ((List.replicate i true).map V.bl)))
        ⟨zM, upd_same⟩ (fun i H3 _ h => SqL.of (h.1 _ _ eL)) ?_ ?_
      · rintro i x H3 hx ⟨s3, eM⟩
        have hi := (List.getElem?_eq_some_iff.mp hx).1
        obtain ⟨b, k, os, e1, e2, e3, _⟩ := hus i (by omega)
        have ext : x = .ref b := Option.some.inj (hx.symm.trans e1)
        subst ext
        refine ⟨rfl, ?_⟩
        refine yesT ?_
        refine ⟨_, rfl, b, k, os, rfl, e2.same s3, e3, fun H4 s4 => ⟨_, s4 _ _ eM, ?_, same_put (s3.trans s4) nM, ?_⟩⟩
        · rw [List.length_map, List.length_replicate]
          exact small1000 (by omega)
        · rw [upd_same, List.replicate_succ', List.map_append]
          rfl
      · rintro H3 ⟨s3, eM⟩
        refine ⟨M, List.replicate us.length true, rfl, SqL.of eM, _, rfl, ?_⟩
        have e : ((List.replicate us.length true).all id) = true := by simp
        rw [e]
        obtain ⟨b, k, os, e1, e2, e3, e4⟩ := hus 13 (by omega)
        have ng := (e4 (by decide)).nogain e3
        refine iteT ⟨_, rfl, 1, rfl, L, us, -1, .ref b, rfl, rfl, SqL.of (s3 _ _ eL), atI_end hul e1, b, k, os, rfl, e2.same s3, e3, fun H4 r pq ps s4 _ S1 S2 _ => ?_, fun H4 r t s4 hg _ => ?_⟩
        · refine ⟨r, _, 0, .str "prices", rfl, rfl, S1, atI_nat (j := 0) rfl, rfl, ?_⟩
          rw [decide_eq_true rfl]
          exact q H4
        · obtain ⟨z, hz⟩ := hg
          exact absurd (ng z) hz
end
end Sm
end
section
set_option Elab.async false
set_option linter.all false
set_option maxRecDepth 100000
namespace Sm
open PySem PySem.Spec PyProof.Rows L2 SmR
set_option maxHeartbeats 4000000
theorem all_mk {l : PySem.W.OpenLaw} {w : World} {K : PySem.W.Frag} {h : Heap} {mg : Str → Option Value} {fa f1 f2 f3 f4 f5 f6 f7 f8 f9 f10 f11 f12 f13 f14 f15 f16 f17 f18 f19 f20 f21 f22 f23 f24 f25 f26 f27 f28 f29 f30 f31 f32 f33 f34 f35 : Addr} (X : K.In h) (G : h.Ns mainGlobals mg) (hfa : mg "law" = some (.ref fa))
    {od1 an1 od2 an2 od3 an3 od4 an4 od5 an5 od6 an6 od7 an7 od8 an8 od9 an9 od10 an10 od11 an11 od12 an12 od13 an13 od14 an14 od15 an15 od16 an16 od17 an17 od18 an18 od19 an19 od20 an20 od21 an21 od22 an22 od23 an23 od24 an24 od25 an25 od26 an26 od27 an27 od28 an28 od29 an29 od30 an30 od31 an31 od32 an32 od33 an33 od34 an34 od35 an35 : Option Addr} {sl1 sl2 sl3 sl4 sl5 sl6 sl7 sl8 sl9 sl10 sl11 sl12 sl13 sl14 sl15 sl16 sl17 sl18 sl19 sl20 sl21 sl22 sl23 sl24 sl25 sl26 sl27 sl28 sl29 sl30 sl31 sl32 sl33 sl34 sl35 : Array (Option Value)} {oc1 kV1 dc1 pm1 cd1 ct1 oc2 kV2 dc2 pm2 cd2 ct2 oc3 kV3 dc3 pm3 cd3 ct3 oc4 kV4 dc4 pm4 cd4 ct4 oc5 kV5 dc5 pm5 cd5 ct5 oc6 kV6 dc6 pm6 cd6 ct6 oc7 kV7 dc7 pm7 cd7 ct7 oc8 kV8 dc8 pm8 cd8 ct8 oc9 kV9 dc9 pm9 cd9 ct9 oc10 kV10 dc10 pm10 cd10 ct10 oc11 kV11 dc11 pm11 cd11 ct11 oc12 kV12 dc12 pm12 cd12 ct12 oc13 kV13 dc13 pm13 cd13 ct13 oc14 kV14 dc14 pm14 cd14 ct14 oc15 kV15 dc15 pm15 cd15 ct15 oc16 kV16 dc16 pm16 cd16 ct16 oc17 kV17 dc17 pm17 cd17 ct17 oc18 kV18 dc18 pm18 cd18 ct18 oc19 kV19 dc19 pm19 cd19 ct19 oc20 kV20 dc20 pm20 cd20 ct20 oc21 kV21 dc21 pm21 cd21 ct21 oc22 kV22 dc22 pm22 cd22 ct22 oc23 kV23 dc23 pm23 cd23 ct23 oc24 kV24 dc24 pm24 cd24 ct24 oc25 kV25 dc25 pm25 cd25 ct25 oc26 kV26 dc26 pm26 cd26 ct26 oc27 kV27 dc27 pm27 cd27 ct27 oc28 kV28 dc28 pm28 cd28 ct28 oc29 kV29 dc29 pm29 cd29 ct29 oc30 kV30 dc30 pm30 cd30 ct30 oc31 kV31 dc31 pm31 cd31 ct31 oc32 kV32 dc32 pm32 cd32 ct32 oc33 kV33 dc33 pm33 cd33 ct33 oc34 kV34 dc34 pm34 cd34 ct34 oc35 kV35 dc35 pm35 cd35 ct35 : Value} {tL tP : Tok}
    (a1 : PySem.W.nsIn K mainGlobals "is_whole" = some (some (.ref f1))) (l1 : K.lookup f1 = some ⟨oc1, od1, .func (PySem.W.fnOf "is_whole" "is_whole" (defArgs sIsWhole) (defBody sIsWhole) (defScope sIsWhole) .none kV1 dc1 pm1 an1 cd1 ct1), sl1⟩) (c1 : PySem.W.codeIn K cd1 "is_whole" = true) (k1 : PySem.W.keepIn K (.ref f1) = true)
    (a2 : PySem.W.nsIn K mainGlobals "is_between" = some (some (.ref f2))) (l2 : K.lookup f2 = some ⟨oc2, od2, .func (PySem.W.fnOf "is_between" "is_between" (defArgs sIsBetween) (defBody sIsBetween) (defScope sIsBetween) .none kV2 dc2 pm2 an2 cd2 ct2), sl2⟩) (c2 : PySem.W.codeIn K cd2 "is_between" = true) (k2 : PySem.W.keepIn K (.ref f2) = true)
    (a3 : PySem.W.nsIn K mainGlobals "require_kind" = some (some (.ref f3))) (l3 : K.lookup f3 = some ⟨oc3, od3, .func (PySem.W.fnOf "require_kind" "require_kind" (defArgs sRequireKind) (defBody sRequireKind) (defScope sRequireKind) .none kV3 dc3 pm3 an3 cd3 ct3), sl3⟩) (c3 : PySem.W.codeIn K cd3 "require_kind" = true) (k3 : PySem.W.keepIn K (.ref f3) = true)
    (a4 : PySem.W.nsIn K mainGlobals "divisor" = some (some (.ref f4))) (l4 : K.lookup f4 = some ⟨oc4, od4, .func (PySem.W.fnOf "divisor" "divisor" (defArgs sDivisor) (defBody sDivisor) (defScope sDivisor) .none kV4 dc4 pm4 an4 cd4 ct4), sl4⟩) (c4 : PySem.W.codeIn K cd4 "divisor" = true) (k4 : PySem.W.keepIn K (.ref f4) = true)
    (a5 : PySem.W.nsIn K mainGlobals "lowest" = some (some (.ref f5))) (l5 : K.lookup f5 = some ⟨oc5, od5, .func (PySem.W.fnOf "lowest" "lowest" (defArgs sLowest) (defBody sLowest) (defScope sLowest) .none kV5 dc5 pm5 an5 cd5 ct5), sl5⟩) (c5 : PySem.W.codeIn K cd5 "lowest" = true) (k5 : PySem.W.keepIn K (.ref f5) = true)
    (a6 : PySem.W.nsIn K mainGlobals "is_greater" = some (some (.ref f6))) (l6 : K.lookup f6 = some ⟨oc6, od6, .func (PySem.W.fnOf "is_greater" "is_greater" (defArgs sIsGreater) (defBody sIsGreater) (defScope sIsGreater) .none kV6 dc6 pm6 an6 cd6 ct6), sl6⟩) (c6 : PySem.W.codeIn K cd6 "is_greater" = true) (k6 : PySem.W.keepIn K (.ref f6) = true)
    (a7 : PySem.W.nsIn K mainGlobals "ratio_of" = some (some (.ref f7))) (l7 : K.lookup f7 = some ⟨oc7, od7, .func (PySem.W.fnOf "ratio_of" "ratio_of" (defArgs sRatioOf) (defBody sRatioOf) (defScope sRatioOf) .none kV7 dc7 pm7 an7 cd7 ct7), sl7⟩) (c7 : PySem.W.codeIn K cd7 "ratio_of" = true) (k7 : PySem.W.keepIn K (.ref f7) = true)
    (a8 : PySem.W.nsIn K mainGlobals "giving" = some (some (.ref f8))) (l8 : K.lookup f8 = some ⟨oc8, od8, .func (PySem.W.fnOf "giving" "giving" (defArgs sGiving) (defBody sGiving) (defScope sGiving) .none kV8 dc8 pm8 an8 cd8 ct8), sl8⟩) (c8 : PySem.W.codeIn K cd8 "giving" = true) (k8 : PySem.W.keepIn K (.ref f8) = true)
    (a9 : PySem.W.nsIn K mainGlobals "best_steps" = some (some (.ref f9))) (l9 : K.lookup f9 = some ⟨oc9, od9, .func (PySem.W.fnOf "best_steps" "best_steps" (defArgs sBestSteps) (defBody sBestSteps) (defScope sBestSteps) .none kV9 dc9 pm9 an9 cd9 ct9), sl9⟩) (c9 : PySem.W.codeIn K cd9 "best_steps" = true) (k9 : PySem.W.keepIn K (.ref f9) = true)
    (a10 : PySem.W.nsIn K mainGlobals "reached_from" = some (some (.ref f10))) (l10 : K.lookup f10 = some ⟨oc10, od10, .func (PySem.W.fnOf "reached_from" "reached_from" (defArgs sReachedFrom) (defBody sReachedFrom) (defScope sReachedFrom) .none kV10 dc10 pm10 an10 cd10 ct10), sl10⟩) (c10 : PySem.W.codeIn K cd10 "reached_from" = true) (k10 : PySem.W.keepIn K (.ref f10) = true)
    (a11 : PySem.W.nsIn K mainGlobals "end_of" = some (some (.ref f11))) (l11 : K.lookup f11 = some ⟨oc11, od11, .func (PySem.W.fnOf "end_of" "end_of" (defArgs sEndOf) (defBody sEndOf) (defScope sEndOf) .none kV11 dc11 pm11 an11 cd11 ct11), sl11⟩) (c11 : PySem.W.codeIn K cd11 "end_of" = true) (k11 : PySem.W.keepIn K (.ref f11) = true)
    (a12 : PySem.W.nsIn K mainGlobals "trails_from" = some (some (.ref f12))) (l12 : K.lookup f12 = some ⟨oc12, od12, .func (PySem.W.fnOf "trails_from" "trails_from" (defArgs sTrailsFrom) (defBody sTrailsFrom) (defScope sTrailsFrom) .none kV12 dc12 pm12 an12 cd12 ct12), sl12⟩) (c12 : PySem.W.codeIn K cd12 "trails_from" = true) (k12 : PySem.W.keepIn K (.ref f12) = true)
    (a13 : PySem.W.nsIn K mainGlobals "loops_at" = some (some (.ref f13))) (l13 : K.lookup f13 = some ⟨oc13, od13, .func (PySem.W.fnOf "loops_at" "loops_at" (defArgs sLoopsAt) (defBody sLoopsAt) (defScope sLoopsAt) .none kV13 dc13 pm13 an13 cd13 ct13), sl13⟩) (c13 : PySem.W.codeIn K cd13 "loops_at" = true) (k13 : PySem.W.keepIn K (.ref f13) = true)
    (a14 : PySem.W.nsIn K mainGlobals "gains" = some (some (.ref f14))) (l14 : K.lookup f14 = some ⟨oc14, od14, .func (PySem.W.fnOf "gains" "gains" (defArgs sGains) (defBody sGains) (defScope sGains) .none kV14 dc14 pm14 an14 cd14 ct14), sl14⟩) (c14 : PySem.W.codeIn K cd14 "gains" = true) (k14 : PySem.W.keepIn K (.ref f14) = true)
    (a15 : PySem.W.nsIn K mainGlobals "gaining_loop" = some (some (.ref f15))) (l15 : K.lookup f15 = some ⟨oc15, od15, .func (PySem.W.fnOf "gaining_loop" "gaining_loop" (defArgs sGainingLoop) (defBody sGainingLoop) (defScope sGainingLoop) .none kV15 dc15 pm15 an15 cd15 ct15), sl15⟩) (c15 : PySem.W.codeIn K cd15 "gaining_loop" = true) (k15 : PySem.W.keepIn K (.ref f15) = true)
    (a16 : PySem.W.nsIn K mainGlobals "price_of" = some (some (.ref f16))) (l16 : K.lookup f16 = some ⟨oc16, od16, .func (PySem.W.fnOf "price_of" "price_of" (defArgs sPriceOf) (defBody sPriceOf) (defScope sPriceOf) .none kV16 dc16 pm16 an16 cd16 ct16), sl16⟩) (c16 : PySem.W.codeIn K cd16 "price_of" = true) (k16 : PySem.W.keepIn K (.ref f16) = true)
    (a17 : PySem.W.nsIn K mainGlobals "scaled" = some (some (.ref f17))) (l17 : K.lookup f17 = some ⟨oc17, od17, .func (PySem.W.fnOf "scaled" "scaled" (defArgs sScaled) (defBody sScaled) (defScope sScaled) .none kV17 dc17 pm17 an17 cd17 ct17), sl17⟩) (c17 : PySem.W.codeIn K cd17 "scaled" = true) (k17 : PySem.W.keepIn K (.ref f17) = true)
    (a18 : PySem.W.nsIn K mainGlobals "worths" = some (some (.ref f18))) (l18 : K.lookup f18 = some ⟨oc18, od18, .func (PySem.W.fnOf "worths" "worths" (defArgs sWorths) (defBody sWorths) (defScope sWorths) .none kV18 dc18 pm18 an18 cd18 ct18), sl18⟩) (c18 : PySem.W.codeIn K cd18 "worths" = true) (k18 : PySem.W.keepIn K (.ref f18) = true)
    (a19 : PySem.W.nsIn K mainGlobals "leads" = some (some (.ref f19))) (l19 : K.lookup f19 = some ⟨oc19, od19, .func (PySem.W.fnOf "leads" "leads" (defArgs sLeads) (defBody sLeads) (defScope sLeads) .none kV19 dc19 pm19 an19 cd19 ct19), sl19⟩) (c19 : PySem.W.codeIn K cd19 "leads" = true) (k19 : PySem.W.keepIn K (.ref f19) = true)
    (a20 : PySem.W.nsIn K mainGlobals "best_between" = some (some (.ref f20))) (l20 : K.lookup f20 = some ⟨oc20, od20, .func (PySem.W.fnOf "best_between" "best_between" (defArgs sBestBetween) (defBody sBestBetween) (defScope sBestBetween) .none kV20 dc20 pm20 an20 cd20 ct20), sl20⟩) (c20 : PySem.W.codeIn K cd20 "best_between" = true) (k20 : PySem.W.keepIn K (.ref f20) = true)
    (a21 : PySem.W.nsIn K mainGlobals "best_trail" = some (some (.ref f21))) (l21 : K.lookup f21 = some ⟨oc21, od21, .func (PySem.W.fnOf "best_trail" "best_trail" (defArgs sBestTrail) (defBody sBestTrail) (defScope sBestTrail) .none kV21 dc21 pm21 an21 cd21 ct21), sl21⟩) (c21 : PySem.W.codeIn K cd21 "best_trail" = true) (k21 : PySem.W.keepIn K (.ref f21) = true)
    (a22 : PySem.W.nsIn K mainGlobals "ratio" = some (some (.ref f22))) (l22 : K.lookup f22 = some ⟨oc22, od22, .func (PySem.W.fnOf "ratio" "ratio" (defArgs sRatio) (defBody sRatio) (defScope sRatio) .none kV22 dc22 pm22 an22 cd22 ct22), sl22⟩) (c22 : PySem.W.codeIn K cd22 "ratio" = true) (k22 : PySem.W.keepIn K (.ref f22) = true)
    (a23 : PySem.W.nsIn K mainGlobals "_law_draw" = some (some (.ref f23))) (l23 : K.lookup f23 = some ⟨oc23, od23, .func (PySem.W.fnOf "_law_draw" "_law_draw" (defArgs sLawDraw) (defBody sLawDraw) (defScope sLawDraw) .none kV23 dc23 pm23 an23 cd23 ct23), sl23⟩) (c23 : PySem.W.codeIn K cd23 "_law_draw" = true) (k23 : PySem.W.keepIn K (.ref f23) = true)
    (a24 : PySem.W.nsIn K mainGlobals "_law_deck" = some (some (.ref f24))) (l24 : K.lookup f24 = some ⟨oc24, od24, .func (PySem.W.fnOf "_law_deck" "_law_deck" (defArgs sLawDeck) (defBody sLawDeck) (defScope sLawDeck) .none kV24 dc24 pm24 an24 cd24 ct24), sl24⟩) (c24 : PySem.W.codeIn K cd24 "_law_deck" = true) (k24 : PySem.W.keepIn K (.ref f24) = true)
    (a25 : PySem.W.nsIn K mainGlobals "_law_board" = some (some (.ref f25))) (l25 : K.lookup f25 = some ⟨oc25, od25, .func (PySem.W.fnOf "_law_board" "_law_board" (defArgs sLawBoard) (defBody sLawBoard) (defScope sLawBoard) .none kV25 dc25 pm25 an25 cd25 ct25), sl25⟩) (c25 : PySem.W.codeIn K cd25 "_law_board" = true) (k25 : PySem.W.keepIn K (.ref f25) = true)
    (a26 : PySem.W.nsIn K mainGlobals "_law_ring" = some (some (.ref f26))) (l26 : K.lookup f26 = some ⟨oc26, od26, .func (PySem.W.fnOf "_law_ring" "_law_ring" (defArgs sLawRing) (defBody sLawRing) (defScope sLawRing) .none kV26 dc26 pm26 an26 cd26 ct26), sl26⟩) (c26 : PySem.W.codeIn K cd26 "_law_ring" = true) (k26 : PySem.W.keepIn K (.ref f26) = true)
    (a27 : PySem.W.nsIn K mainGlobals "_law_fair" = some (some (.ref f27))) (l27 : K.lookup f27 = some ⟨oc27, od27, .func (PySem.W.fnOf "_law_fair" "_law_fair" (defArgs sLawFair) (defBody sLawFair) (defScope sLawFair) .none kV27 dc27 pm27 an27 cd27 ct27), sl27⟩) (c27 : PySem.W.codeIn K cd27 "_law_fair" = true) (k27 : PySem.W.keepIn K (.ref f27) = true)
    (a28 : PySem.W.nsIn K mainGlobals "_law_some" = some (some (.ref f28))) (l28 : K.lookup f28 = some ⟨oc28, od28, .func (PySem.W.fnOf "_law_some" "_law_some" (defArgs sLawSome) (defBody sLawSome) (defScope sLawSome) .none kV28 dc28 pm28 an28 cd28 ct28), sl28⟩) (c28 : PySem.W.codeIn K cd28 "_law_some" = true) (k28 : PySem.W.keepIn K (.ref f28) = true)
    (a29 : PySem.W.nsIn K mainGlobals "_law_more" = some (some (.ref f29))) (l29 : K.lookup f29 = some ⟨oc29, od29, .func (PySem.W.fnOf "_law_more" "_law_more" (defArgs sLawMore) (defBody sLawMore) (defScope sLawMore) .none kV29 dc29 pm29 an29 cd29 ct29), sl29⟩) (c29 : PySem.W.codeIn K cd29 "_law_more" = true) (k29 : PySem.W.keepIn K (.ref f29) = true)
    (a30 : PySem.W.nsIn K mainGlobals "_law_product" = some (some (.ref f30))) (l30 : K.lookup f30 = some ⟨oc30, od30, .func (PySem.W.fnOf "_law_product" "_law_product" (defArgs sLawProduct) (defBody sLawProduct) (defScope sLawProduct) .none kV30 dc30 pm30 an30 cd30 ct30), sl30⟩) (c30 : PySem.W.codeIn K cd30 "_law_product" = true) (k30 : PySem.W.keepIn K (.ref f30) = true)
    (a31 : PySem.W.nsIn K mainGlobals "_law_times" = some (some (.ref f31))) (l31 : K.lookup f31 = some ⟨oc31, od31, .func (PySem.W.fnOf "_law_times" "_law_times" (defArgs sLawTimes) (defBody sLawTimes) (defScope sLawTimes) .none kV31 dc31 pm31 an31 cd31 ct31), sl31⟩) (c31 : PySem.W.codeIn K cd31 "_law_times" = true) (k31 : PySem.W.keepIn K (.ref f31) = true)
    (a32 : PySem.W.nsIn K mainGlobals "_law_pair" = some (some (.ref f32))) (l32 : K.lookup f32 = some ⟨oc32, od32, .func (PySem.W.fnOf "_law_pair" "_law_pair" (defArgs sLawPair) (defBody sLawPair) (defScope sLawPair) .none kV32 dc32 pm32 an32 cd32 ct32), sl32⟩) (c32 : PySem.W.codeIn K cd32 "_law_pair" = true) (k32 : PySem.W.keepIn K (.ref f32) = true)
    (a33 : PySem.W.nsIn K mainGlobals "_law_thirds" = some (some (.ref f33))) (l33 : K.lookup f33 = some ⟨oc33, od33, .func (PySem.W.fnOf "_law_thirds" "_law_thirds" (defArgs sLawThirds) (defBody sLawThirds) (defScope sLawThirds) .none kV33 dc33 pm33 an33 cd33 ct33), sl33⟩) (c33 : PySem.W.codeIn K cd33 "_law_thirds" = true) (k33 : PySem.W.keepIn K (.ref f33) = true)
    (a34 : PySem.W.nsIn K mainGlobals "_law_right" = some (some (.ref f34))) (l34 : K.lookup f34 = some ⟨oc34, od34, .func (PySem.W.fnOf "_law_right" "_law_right" (defArgs sLawRight) (defBody sLawRight) (defScope sLawRight) .none kV34 dc34 pm34 an34 cd34 ct34), sl34⟩) (c34 : PySem.W.codeIn K cd34 "_law_right" = true) (k34 : PySem.W.keepIn K (.ref f34) = true)
    (a35 : PySem.W.nsIn K mainGlobals "law" = some (some (.ref f35))) (l35 : K.lookup f35 = some ⟨oc35, od35, .func (PySem.W.fnOf "law" "law" (defArgs sLaw) (defBody sLaw) (defScope sLaw) .none kV35 dc35 pm35 an35 cd35 ct35), sl35⟩) (c35 : PySem.W.codeIn K cd35 "law" = true) (k35 : PySem.W.keepIn K (.ref f35) = true)
    (vL : PySem.W.nsIn K mainGlobals "LOOP" = some (some (.str "loop" tL))) (vP : PySem.W.nsIn K mainGlobals "PRICES" = some (some (.str "prices" tP)))
    (z1 : PySem.W.nsIn K mainGlobals "isinstance" = some none)
    (z2 : PySem.W.nsIn K mainGlobals "int" = some none)
    (z3 : PySem.W.nsIn K mainGlobals "bool" = some none)
    (z4 : PySem.W.nsIn K mainGlobals "enumerate" = some none)
    (z5 : PySem.W.nsIn K mainGlobals "sorted" = some none)
    (z6 : PySem.W.nsIn K mainGlobals "len" = some none)
    (z7 : PySem.W.nsIn K mainGlobals "min" = some none)
    (z8 : PySem.W.nsIn K mainGlobals "tuple" = some none)
    (z9 : PySem.W.nsIn K mainGlobals "list" = some none)
    (z10 : PySem.W.nsIn K mainGlobals "range" = some none)
    (z11 : PySem.W.nsIn K mainGlobals "max" = some none)
    (z12 : PySem.W.nsIn K mainGlobals "abs" = some none)
    (z13 : PySem.W.nsIn K mainGlobals "set" = some none)
    (z14 : PySem.W.nsIn K mainGlobals "repr" = some none)
    (z15 : PySem.W.nsIn K mainGlobals "all" = some none)
    : ∃ fd : FuncData, (∀ (s : Shared) (v : Value), BindsTo s fd ⟨[v], []⟩ [("_law_script", v)]) ∧ ∀ base : Heap, K.In base → base.Ns mainGlobals mg → FnG l.prog w K mg base CX0 12 fa fd ["_law_script"] (spLaw K) := by
  have e := hfa.symm.trans (PySem.W.mg_of X G a35)
  cases e
  have misinstance : mg "isinstance" = none := PySem.W.mg_none_of X G z1
  have mint : mg "int" = none := PySem.W.mg_none_of X G z2
  have mbool : mg "bool" = none := PySem.W.mg_none_of X G z3
  have menumerate : mg "enumerate" = none := PySem.W.mg_none_of X G z4
  have msorted : mg "sorted" = none := PySem.W.mg_none_of X G z5
  have mlen : mg "len" = none := PySem.W.mg_none_of X G z6
  have mmin : mg "min" = none := PySem.W.mg_none_of X G z7
  have mtuple : mg "tuple" = none := PySem.W.mg_none_of X G z8
  have mlist : mg "list" = none := PySem.W.mg_none_of X G z9
  have mrange : mg "range" = none := PySem.W.mg_none_of X G z10
  have mmax : mg "max" = none := PySem.W.mg_none_of X G z11
  have mabs : mg "abs" = none := PySem.W.mg_none_of X G z12
  have mset : mg "set" = none := PySem.W.mg_none_of X G z13
  have mrepr : mg "repr" = none := PySem.W.mg_none_of X G z14
  have mall : mg "all" = none := PySem.W.mg_none_of X G z15
  have mLOOP := PySem.W.mg_of X G vL
  have mPRICES := PySem.W.mg_of X G vP
  refine ⟨PySem.W.fnOf "law" "law" (defArgs sLaw) (defBody sLaw) (defScope sLaw) .none kV35 dc35 pm35 an35 cd35 ct35, fun s v => .of_eq rfl, fun base _ _ => ?_⟩
  have D1 : Dfn K mg "is_whole" sIsWhole ["value"] := ⟨_, _, fun_mk (st := sIsWhole) l1 c1 k1, (fun_mk (st := sIsWhole) l1 c1 k1).binds (ps := ["value"]) fun _ _ _ _ _ _ us hl => match us, hl with | [_], _ => rfl, PySem.W.mg_of X G a1⟩
  have D2 : Dfn K mg "is_between" sIsBetween ["value", "low", "high"] := ⟨_, _, fun_mk (st := sIsBetween) l2 c2 k2, (fun_mk (st := sIsBetween) l2 c2 k2).binds (ps := ["value", "low", "high"]) fun _ _ _ _ _ _ us hl => match us, hl with | [_, _, _], _ => rfl, PySem.W.mg_of X G a2⟩
  have D3 : Dfn K mg "require_kind" sRequireKind ["board", "kind"] := ⟨_, _, fun_mk (st := sRequireKind) l3 c3 k3, (fun_mk (st := sRequireKind) l3 c3 k3).binds (ps := ["board", "kind"]) fun _ _ _ _ _ _ us hl => match us, hl with | [_, _], _ => rfl, PySem.W.mg_of X G a3⟩
  have D4 : Dfn K mg "divisor" sDivisor ["one", "other"] := ⟨_, _, fun_mk (st := sDivisor) l4 c4 k4, (fun_mk (st := sDivisor) l4 c4 k4).binds (ps := ["one", "other"]) fun _ _ _ _ _ _ us hl => match us, hl with | [_, _], _ => rfl, PySem.W.mg_of X G a4⟩
  have D5 : Dfn K mg "lowest" sLowest ["num", "den"] := ⟨_, _, fun_mk (st := sLowest) l5 c5 k5, (fun_mk (st := sLowest) l5 c5 k5).binds (ps := ["num", "den"]) fun _ _ _ _ _ _ us hl => match us, hl with | [_, _], _ => rfl, PySem.W.mg_of X G a5⟩
  have D6 : Dfn K mg "is_greater" sIsGreater ["one", "other"] := ⟨_, _, fun_mk (st := sIsGreater) l6 c6 k6, (fun_mk (st := sIsGreater) l6 c6 k6).binds (ps := ["one", "other"]) fun _ _ _ _ _ _ us hl => match us, hl with | [_, _], _ => rfl, PySem.W.mg_of X G a6⟩
  have D7 : Dfn K mg "ratio_of" sRatioOf ["board", "indexes"] := ⟨_, _, fun_mk (st := sRatioOf) l7 c7 k7, (fun_mk (st := sRatioOf) l7 c7 k7).binds (ps := ["board", "indexes"]) fun _ _ _ _ _ _ us hl => match us, hl with | [_, _], _ => rfl, PySem.W.mg_of X G a7⟩
  have D8 : Dfn K mg "giving" sGiving ["board", "kind"] := ⟨_, _, fun_mk (st := sGiving) l8 c8 k8, (fun_mk (st := sGiving) l8 c8 k8).binds (ps := ["board", "kind"]) fun _ _ _ _ _ _ us hl => match us, hl with | [_, _], _ => rfl, PySem.W.mg_of X G a8⟩
  have D9 : Dfn K mg "best_steps" sBestSteps ["board", "kind"] := ⟨_, _, fun_mk (st := sBestSteps) l9 c9 k9, (fun_mk (st := sBestSteps) l9 c9 k9).binds (ps := ["board", "kind"]) fun _ _ _ _ _ _ us hl => match us, hl with | [_, _], _ => rfl, PySem.W.mg_of X G a9⟩
  have D10 : Dfn K mg "reached_from" sReachedFrom ["board", "kind"] := ⟨_, _, fun_mk (st := sReachedFrom) l10 c10 k10, (fun_mk (st := sReachedFrom) l10 c10 k10).binds (ps := ["board", "kind"]) fun _ _ _ _ _ _ us hl => match us, hl with | [_, _], _ => rfl, PySem.W.mg_of X G a10⟩
  have D11 : Dfn K mg "end_of" sEndOf ["board", "kind", "trail"] := ⟨_, _, fun_mk (st := sEndOf) l11 c11 k11, (fun_mk (st := sEndOf) l11 c11 k11).binds (ps := ["board", "kind", "trail"]) fun _ _ _ _ _ _ us hl => match us, hl with | [_, _, _], _ => rfl, PySem.W.mg_of X G a11⟩
  have D12 : Dfn K mg "trails_from" sTrailsFrom ["board", "kind"] := ⟨_, _, fun_mk (st := sTrailsFrom) l12 c12 k12, (fun_mk (st := sTrailsFrom) l12 c12 k12).binds (ps := ["board", "kind"]) fun _ _ _ _ _ _ us hl => match us, hl with | [_, _], _ => rfl, PySem.W.mg_of X G a12⟩
  have D13 : Dfn K mg "loops_at" sLoopsAt ["board", "kind"] := ⟨_, _, fun_mk (st := sLoopsAt) l13 c13 k13, (fun_mk (st := sLoopsAt) l13 c13 k13).binds (ps := ["board", "kind"]) fun _ _ _ _ _ _ us hl => match us, hl with | [_, _], _ => rfl, PySem.W.mg_of X G a13⟩
  have D14 : Dfn K mg "gains" sGains ["board", "indexes"] := ⟨_, _, fun_mk (st := sGains) l14 c14 k14, (fun_mk (st := sGains) l14 c14 k14).binds (ps := ["board", "indexes"]) fun _ _ _ _ _ _ us hl => match us, hl with | [_, _], _ => rfl, PySem.W.mg_of X G a14⟩
  have D15 : Dfn K mg "gaining_loop" sGainingLoop ["board", "kinds"] := ⟨_, _, fun_mk (st := sGainingLoop) l15 c15 k15, (fun_mk (st := sGainingLoop) l15 c15 k15).binds (ps := ["board", "kinds"]) fun _ _ _ _ _ _ us hl => match us, hl with | [_, _], _ => rfl, PySem.W.mg_of X G a15⟩
  have D16 : Dfn K mg "price_of" sPriceOf ["board", "kind"] := ⟨_, _, fun_mk (st := sPriceOf) l16 c16 k16, (fun_mk (st := sPriceOf) l16 c16 k16).binds (ps := ["board", "kind"]) fun _ _ _ _ _ _ us hl => match us, hl with | [_, _], _ => rfl, PySem.W.mg_of X G a16⟩
  have D17 : Dfn K mg "scaled" sScaled ["fractions"] := ⟨_, _, fun_mk (st := sScaled) l17 c17 k17, (fun_mk (st := sScaled) l17 c17 k17).binds (ps := ["fractions"]) fun _ _ _ _ _ _ us hl => match us, hl with | [_], _ => rfl, PySem.W.mg_of X G a17⟩
  have D18 : Dfn K mg "worths" sWorths ["board"] := ⟨_, _, fun_mk (st := sWorths) l18 c18 k18, (fun_mk (st := sWorths) l18 c18 k18).binds (ps := ["board"]) fun _ _ _ _ _ _ us hl => match us, hl with | [_], _ => rfl, PySem.W.mg_of X G a18⟩
  have D19 : Dfn K mg "leads" sLeads ["board", "one", "other"] := ⟨_, _, fun_mk (st := sLeads) l19 c19 k19, (fun_mk (st := sLeads) l19 c19 k19).binds (ps := ["board", "one", "other"]) fun _ _ _ _ _ _ us hl => match us, hl with | [_, _, _], _ => rfl, PySem.W.mg_of X G a19⟩
  have D20 : Dfn K mg "best_between" sBestBetween ["board", "one", "other"] := ⟨_, _, fun_mk (st := sBestBetween) l20 c20 k20, (fun_mk (st := sBestBetween) l20 c20 k20).binds (ps := ["board", "one", "other"]) fun _ _ _ _ _ _ us hl => match us, hl with | [_, _, _], _ => rfl, PySem.W.mg_of X G a20⟩
  have D21 : Dfn K mg "best_trail" sBestTrail ["board", "one", "other"] := ⟨_, _, fun_mk (st := sBestTrail) l21 c21 k21, (fun_mk (st := sBestTrail) l21 c21 k21).binds (ps := ["board", "one", "other"]) fun _ _ _ _ _ _ us hl => match us, hl with | [_, _, _], _ => rfl, PySem.W.mg_of X G a21⟩
  have D22 : Dfn K mg "ratio" sRatio ["board", "one", "other"] := ⟨_, _, fun_mk (st := sRatio) l22 c22 k22, (fun_mk (st := sRatio) l22 c22 k22).binds (ps := ["board", "one", "other"]) fun _ _ _ _ _ _ us hl => match us, hl with | [_, _, _], _ => rfl, PySem.W.mg_of X G a22⟩
  have D23 : Dfn K mg "_law_draw" sLawDraw ["_law_deck_here", "_law_many"] := ⟨_, _, fun_mk (st := sLawDraw) l23 c23 k23, (fun_mk (st := sLawDraw) l23 c23 k23).binds (ps := ["_law_deck_here", "_law_many"]) fun _ _ _ _ _ _ us hl => match us, hl with | [_, _], _ => rfl, PySem.W.mg_of X G a23⟩
  have D24 : Dfn K mg "_law_deck" sLawDeck ["_law_script"] := ⟨_, _, fun_mk (st := sLawDeck) l24 c24 k24, (fun_mk (st := sLawDeck) l24 c24 k24).binds (ps := ["_law_script"]) fun _ _ _ _ _ _ us hl => match us, hl with | [_], _ => rfl, PySem.W.mg_of X G a24⟩
  have D25 : Dfn K mg "_law_board" sLawBoard ["_law_deck_here", "_law_kinds", "_law_many", "_law_upto"] := ⟨_, _, fun_mk (st := sLawBoard) l25 c25 k25, (fun_mk (st := sLawBoard) l25 c25 k25).binds (ps := ["_law_deck_here", "_law_kinds", "_law_many", "_law_upto"]) fun _ _ _ _ _ _ us hl => match us, hl with | [_, _, _, _], _ => rfl, PySem.W.mg_of X G a25⟩
  have D26 : Dfn K mg "_law_ring" sLawRing ["_law_deck_here", "_law_kinds"] := ⟨_, _, fun_mk (st := sLawRing) l26 c26 k26, (fun_mk (st := sLawRing) l26 c26 k26).binds (ps := ["_law_deck_here", "_law_kinds"]) fun _ _ _ _ _ _ us hl => match us, hl with | [_, _], _ => rfl, PySem.W.mg_of X G a26⟩
  have D27 : Dfn K mg "_law_fair" sLawFair ["_law_deck_here", "_law_kinds", "_law_many", "_law_upto"] := ⟨_, _, fun_mk (st := sLawFair) l27 c27 k27, (fun_mk (st := sLawFair) l27 c27 k27).binds (ps := ["_law_deck_here", "_law_kinds", "_law_many", "_law_upto"]) fun _ _ _ _ _ _ us hl => match us, hl with | [_, _, _, _], _ => rfl, PySem.W.mg_of X G a27⟩
  have D28 : Dfn K mg "_law_some" sLawSome ["_law_deck_here", "_law_turn"] := ⟨_, _, fun_mk (st := sLawSome) l28 c28 k28, (fun_mk (st := sLawSome) l28 c28 k28).binds (ps := ["_law_deck_here", "_law_turn"]) fun _ _ _ _ _ _ us hl => match us, hl with | [_, _], _ => rfl, PySem.W.mg_of X G a28⟩
  have D29 : Dfn K mg "_law_more" sLawMore ["_law_one", "_law_other"] := ⟨_, _, fun_mk (st := sLawMore) l29 c29 k29, (fun_mk (st := sLawMore) l29 c29 k29).binds (ps := ["_law_one", "_law_other"]) fun _ _ _ _ _ _ us hl => match us, hl with | [_, _], _ => rfl, PySem.W.mg_of X G a29⟩
  have D30 : Dfn K mg "_law_product" sLawProduct ["_law_board_here", "_law_indexes", "_law_item"] := ⟨_, _, fun_mk (st := sLawProduct) l30 c30 k30, (fun_mk (st := sLawProduct) l30 c30 k30).binds (ps := ["_law_board_here", "_law_indexes", "_law_item"]) fun _ _ _ _ _ _ us hl => match us, hl with | [_, _, _], _ => rfl, PySem.W.mg_of X G a30⟩
  have D31 : Dfn K mg "_law_times" sLawTimes ["_law_one", "_law_other"] := ⟨_, _, fun_mk (st := sLawTimes) l31 c31 k31, (fun_mk (st := sLawTimes) l31 c31 k31).binds (ps := ["_law_one", "_law_other"]) fun _ _ _ _ _ _ us hl => match us, hl with | [_, _], _ => rfl, PySem.W.mg_of X G a31⟩
  have D32 : Dfn K mg "_law_pair" sLawPair ["_law_board_here", "_law_prices", "_law_table", "_law_a", "_law_c"] := ⟨_, _, fun_mk (st := sLawPair) l32 c32 k32, (fun_mk (st := sLawPair) l32 c32 k32).binds (ps := ["_law_board_here", "_law_prices", "_law_table", "_law_a", "_law_c"]) fun _ _ _ _ _ _ us hl => match us, hl with | [_, _, _, _, _], _ => rfl, PySem.W.mg_of X G a32⟩
  have D33 : Dfn K mg "_law_thirds" sLawThirds ["_law_board_here", "_law_table", "_law_a", "_law_c"] := ⟨_, _, fun_mk (st := sLawThirds) l33 c33 k33, (fun_mk (st := sLawThirds) l33 c33 k33).binds (ps := ["_law_board_here", "_law_table", "_law_a", "_law_c"]) fun _ _ _ _ _ _ us hl => match us, hl with | [_, _, _, _], _ => rfl, PySem.W.mg_of X G a33⟩
  have D34 : Dfn K mg "_law_right" sLawRight ["_law_board_here"] := ⟨_, _, fun_mk (st := sLawRight) l34 c34 k34, (fun_mk (st := sLawRight) l34 c34 k34).binds (ps := ["_law_board_here"]) fun _ _ _ _ _ _ us hl => match us, hl with | [_], _ => rfl, PySem.W.mg_of X G a34⟩
  have D35 := fun_mk (st := sLaw) l35 c35 k35
  have GIsWhole := ok_IsWhole (P := l.prog) (w := w) (base := base) D1 misinstance mint mbool
  have GIsBetween := ok_IsBetween (P := l.prog) (w := w) (base := base) D2 GIsWhole
  have GRequireKind := ok_RequireKind (P := l.prog) (w := w) (base := base) D3 GIsBetween
  have GDivisor := ok_Divisor (P := l.prog) (w := w) (base := base) D4
  have GLowest := ok_Lowest (P := l.prog) (w := w) (base := base) D5 GDivisor
  have GIsGreater := ok_IsGreater (P := l.prog) (w := w) (base := base) D6
  have GRatioOf := ok_RatioOf (P := l.prog) (w := w) (base := base) D7 GLowest
  have GGiving := ok_Giving (P := l.prog) (w := w) (base := base) D8 menumerate
  have GBestSteps := ok_BestSteps (P := l.prog) (w := w) (base := base) D9 GGiving GRatioOf GIsGreater msorted
  have GReachedFrom := ok_ReachedFrom (P := l.prog) (w := w) (base := base) D10 GGiving mlen
  have GEndOf := ok_EndOf (P := l.prog) (w := w) (base := base) D11
  have GTrailsFrom := ok_TrailsFrom (P := l.prog) (w := w) (base := base) D12 GBestSteps mlen
  have GLoopsAt := ok_LoopsAt (P := l.prog) (w := w) (base := base) D13 GTrailsFrom GBestSteps GEndOf
  have GGains := ok_Gains (P := l.prog) (w := w) (base := base) D14 GRatioOf
  have GGainingLoop := ok_GainingLoop (P := l.prog) (w := w) (base := base) D15 GLoopsAt GGains mmin
  have GPriceOf := ok_PriceOf (P := l.prog) (w := w) (base := base) D16 GTrailsFrom GRatioOf GIsGreater
  have GScaled := ok_Scaled (P := l.prog) (w := w) (base := base) D17 GDivisor mtuple
  have GWorths := ok_Worths (P := l.prog) (w := w) (base := base) D18 GGainingLoop GScaled GPriceOf mlist mrange mLOOP mPRICES
  have GLeads := ok_Leads (P := l.prog) (w := w) (base := base) D19 GRequireKind GReachedFrom
  have GBestBetween := ok_BestBetween (P := l.prog) (w := w) (base := base) D20 GReachedFrom GGainingLoop GTrailsFrom GEndOf GRatioOf GIsGreater
  have GBestTrail := ok_BestTrail (P := l.prog) (w := w) (base := base) D21 GRequireKind GBestBetween
  have GRatio := ok_Ratio (P := l.prog) (w := w) (base := base) D22 GBestTrail GRatioOf
  have GLawDraw := ok_LawDraw (P := l.prog) (w := w) (base := base) D23 mint mmax mlen
  have GLawDeck := ok_LawDeck (P := l.prog) (w := w) (base := base) D24 mabs
  have GLawBoard := ok_LawBoard (P := l.prog) (w := w) (base := base) D25 GLawDraw mint mrange mtuple msorted mset
  have GLawRing := ok_LawRing (P := l.prog) (w := w) (base := base) D26 GLawDraw GLawBoard mint mmax mrange mtuple mlist msorted mset
  have GLawFair := ok_LawFair (P := l.prog) (w := w) (base := base) D27 GLawDraw mint mrange mtuple msorted mset
  have GLawSome := ok_LawSome (P := l.prog) (w := w) (base := base) D28 GLawDraw GLawRing GLawFair
  have GLawMore := ok_LawMore (P := l.prog) (w := w) (base := base) D29
  have GLawProduct := ok_LawProduct (P := l.prog) (w := w) (base := base) D30
  have GLawTimes := ok_LawTimes (P := l.prog) (w := w) (base := base) D31
  have GLawPair := ok_LawPair (P := l.prog) (w := w) (base := base) D32 GLeads GBestTrail GLawProduct GLawMore mrepr
  have GLawThirds := ok_LawThirds (P := l.prog) (w := w) (base := base) D33 GLawMore GLawTimes mrange
  have GLawRight := ok_LawRight (P := l.prog) (w := w) (base := base) D34 GWorths GRatio GLawPair GLawThirds mrange
  exact ok_Law D35 GLawDeck GLawSome GLawRight GWorths mrange mall
end Sm
open PySem PySem.W PyProof.Rows
set_option maxHeartbeats 0 in
theorem PySem.Challenge.cw_smallchange_k56_whole_prices_bound_ratio_holds : PySem.Challenge.rw_smallchange_k56_whole_prices_bound_ratio.Holds := by
  w_on; o_law; k_head; (case hw => w_witness2)
  k_fill
  refine SmR.walk_ofG (l := PySem.Challenge.rw_smallchange_k56_whole_prices_bound_ratio) (n := 63) (k := 12) (sp := Sm.spLaw) (x := "_law_script") rfl (by decide) rfl ⟨rfl, by decide, by decide⟩ (fun w h Y => PySem.W.kIn_of Y) ?F (fun K H a ns hl _ hS => ⟨a, ns, rfl, hS, hl, fun _ => rfl⟩)
  case F =>
    intro w mg fa h KX G hmg
    refine' Sm.all_mk KX G hmg ?a1 ?l1 ?c1 ?k1 ?a2 ?l2 ?c2 ?k2 ?a3 ?l3 ?c3 ?k3 ?a4 ?l4 ?c4 ?k4 ?a5 ?l5 ?c5 ?k5 ?a6 ?l6 ?c6 ?k6 ?a7 ?l7 ?c7 ?k7 ?a8 ?l8 ?c8 ?k8 ?a9 ?l9 ?c9 ?k9 ?a10 ?l10 ?c10 ?k10 ?a11 ?l11 ?c11 ?k11 ?a12 ?l12 ?c12 ?k12 ?a13 ?l13 ?c13 ?k13 ?a14 ?l14 ?c14 ?k14 ?a15 ?l15 ?c15 ?k15 ?a16 ?l16 ?c16 ?k16 ?a17 ?l17 ?c17 ?k17 ?a18 ?l18 ?c18 ?k18 ?a19 ?l19 ?c19 ?k19 ?a20 ?l20 ?c20 ?k20 ?a21 ?l21 ?c21 ?k21 ?a22 ?l22 ?c22 ?k22 ?a23 ?l23 ?c23 ?k23 ?a24 ?l24 ?c24 ?k24 ?a25 ?l25 ?c25 ?k25 ?a26 ?l26 ?c26 ?k26 ?a27 ?l27 ?c27 ?k27 ?a28 ?l28 ?c28 ?k28 ?a29 ?l29 ?c29 ?k29 ?a30 ?l30 ?c30 ?k30 ?a31 ?l31 ?c31 ?k31 ?a32 ?l32 ?c32 ?k32 ?a33 ?l33 ?c33 ?k33 ?a34 ?l34 ?c34 ?k34 ?a35 ?l35 ?c35 ?k35 ?vL ?vP ?z1 ?z2 ?z3 ?z4 ?z5 ?z6 ?z7 ?z8 ?z9 ?z10 ?z11 ?z12 ?z13 ?z14 ?z15
    (case a1 => k_is)
    (case l1 => k_is)
    (case c1 => k_is)
    (case k1 => k_is)
    (case a2 => k_is)
    (case l2 => k_is)
    (case c2 => k_is)
    (case k2 => k_is)
    (case a3 => k_is)
    (case l3 => k_is)
    (case c3 => k_is)
    (case k3 => k_is)
    (case a4 => k_is)
    (case l4 => k_is)
    (case c4 => k_is)
    (case k4 => k_is)
    (case a5 => k_is)
    (case l5 => k_is)
    (case c5 => k_is)
    (case k5 => k_is)
    (case a6 => k_is)
    (case l6 => k_is)
    (case c6 => k_is)
    (case k6 => k_is)
    (case a7 => k_is)
    (case l7 => k_is)
    (case c7 => k_is)
    (case k7 => k_is)
    (case a8 => k_is)
    (case l8 => k_is)
    (case c8 => k_is)
    (case k8 => k_is)
    (case a9 => k_is)
    (case l9 => k_is)
    (case c9 => k_is)
    (case k9 => k_is)
    (case a10 => k_is)
    (case l10 => k_is)
    (case c10 => k_is)
    (case k10 => k_is)
    (case a11 => k_is)
    (case l11 => k_is)
    (case c11 => k_is)
    (case k11 => k_is)
    (case a12 => k_is)
    (case l12 => k_is)
    (case c12 => k_is)
    (case k12 => k_is)
    (case a13 => k_is)
    (case l13 => k_is)
    (case c13 => k_is)
    (case k13 => k_is)
    (case a14 => k_is)
    (case l14 => k_is)
    (case c14 => k_is)
    (case k14 => k_is)
    (case a15 => k_is)
    (case l15 => k_is)
    (case c15 => k_is)
    (case k15 => k_is)
    (case a16 => k_is)
    (case l16 => k_is)
    (case c16 => k_is)
    (case k16 => k_is)
    (case a17 => k_is)
    (case l17 => k_is)
    (case c17 => k_is)
    (case k17 => k_is)
    (case a18 => k_is)
    (case l18 => k_is)
    (case c18 => k_is)
    (case k18 => k_is)
    (case a19 => k_is)
    (case l19 => k_is)
    (case c19 => k_is)
    (case k19 => k_is)
    (case a20 => k_is)
    (case l20 => k_is)
    (case c20 => k_is)
    (case k20 => k_is)
    (case a21 => k_is)
    (case l21 => k_is)
    (case c21 => k_is)
    (case k21 => k_is)
    (case a22 => k_is)
    (case l22 => k_is)
    (case c22 => k_is)
    (case k22 => k_is)
    (case a23 => k_is)
    (case l23 => k_is)
    (case c23 => k_is)
    (case k23 => k_is)
    (case a24 => k_is)
    (case l24 => k_is)
    (case c24 => k_is)
    (case k24 => k_is)
    (case a25 => k_is)
    (case l25 => k_is)
    (case c25 => k_is)
    (case k25 => k_is)
    (case a26 => k_is)
    (case l26 => k_is)
    (case c26 => k_is)
    (case k26 => k_is)
    (case a27 => k_is)
    (case l27 => k_is)
    (case c27 => k_is)
    (case k27 => k_is)
    (case a28 => k_is)
    (case l28 => k_is)
    (case c28 => k_is)
    (case k28 => k_is)
    (case a29 => k_is)
    (case l29 => k_is)
    (case c29 => k_is)
    (case k29 => k_is)
    (case a30 => k_is)
    (case l30 => k_is)
    (case c30 => k_is)
    (case k30 => k_is)
    (case a31 => k_is)
    (case l31 => k_is)
    (case c31 => k_is)
    (case k31 => k_is)
    (case a32 => k_is)
    (case l32 => k_is)
    (case c32 => k_is)
    (case k32 => k_is)
    (case a33 => k_is)
    (case l33 => k_is)
    (case c33 => k_is)
    (case k33 => k_is)
    (case a34 => k_is)
    (case l34 => k_is)
    (case c34 => k_is)
    (case k34 => k_is)
    (case a35 => k_is)
    (case l35 => k_is)
    (case c35 => k_is)
    (case k35 => k_is)
    (case vL => k_is)
    (case vP => k_is)
    (case z1 => k_is)
    (case z2 => k_is)
    (case z3 => k_is)
    (case z4 => k_is)
    (case z5 => k_is)
    (case z6 => k_is)
    (case z7 => k_is)
    (case z8 => k_is)
    (case z9 => k_is)
    (case z10 => k_is)
    (case z11 => k_is)
    (case z12 => k_is)
    (case z13 => k_is)
    (case z14 => k_is)
    (case z15 => k_is)
end
