import PyProof.Rows.All
import Wide.All
import OpenK.AllK
import Wide.FinOn
import HandS.ForMost
import HandS.Walk
import HandS.Zip
import HandS.TupAny
import HandS.Wide
import KE.KDictKeyed
import KE.KDictLaw
import KE.SortData
import KE.GoesEnum
import KE.GoesMore
import KE.KDictDisplayH
import HandS.EndBits
import PyProof.ReprRoads
import PyProof.Rows.RegStrFacts
import HandS.Head0
import HandS.Head1
import HandS.Head2
import HandS.HeadEnd
import HandS.HeadHook1
import HandS.HeadHook2
import PySem.Challenge.RW_askedpairs_k75_whole_best_together
set_option Elab.async false
set_option linter.all false
set_option maxRecDepth 100000
set_option maxHeartbeats 4000000
/-! the mathematics, 1: fractions -/
namespace Km
abbrev Frc := Int × Int
def low (t b : Int) : Frc := (t / (Int.gcd t b : Int), b / (Int.gcd t b : Int))
def plus (p q : Frc) : Frc := low (p.1 * q.2 + q.1 * p.2) (p.2 * q.2)
def times (p q : Frc) : Frc := low (p.1 * q.1) (p.2 * q.2)
def less (p q : Frc) : Bool := decide (p.1 * q.2 < q.1 * p.2)
def rest (p : Frc) : Frc := (p.2 - p.1, p.2)
def average (c : Frc) (w : Int) (y n : Frc) : Frc := plus (times c (plus (w, 1) y)) (times (rest c) n)
def val (p : Frc) : Rat := Rat.divInt p.1 p.2

theorem gcd_pos {t b : Int} (h : 0 < b) : 0 < (Int.gcd t b : Int) := by
  have : 0 < Int.gcd t b := Int.gcd_pos_of_ne_zero_right t (by omega)
  omega
theorem low_pos {t b : Int} (h : 0 < b) : 0 < (low t b).2 :=
  Int.ediv_pos_of_pos_of_dvd h (Int.le_of_lt (gcd_pos h)) (Int.gcd_dvd_right ..)
theorem low_mul {t b : Int} : (low t b).1 * (Int.gcd t b : Int) = t ∧ (low t b).2 * (Int.gcd t b : Int) = b :=
  ⟨Int.ediv_mul_cancel (Int.gcd_dvd_left ..), Int.ediv_mul_cancel (Int.gcd_dvd_right ..)⟩
theorem val_low {t b : Int} (h : 0 < b) : val (low t b) = Rat.divInt t b := by
  have hg := gcd_pos (t := t) h
  have e := low_mul (t := t) (b := b)
  have hp := low_pos (t := t) h
  unfold val
  rw [Rat.divInt_eq_divInt_iff (by omega) (by omega)]
  calc (low t b).1 * b = (low t b).1 * ((low t b).2 * (Int.gcd t b : Int)) := by rw [e.2]
    _ = ((low t b).1 * (Int.gcd t b : Int)) * (low t b).2 := by grind
    _ = t * (low t b).2 := by rw [e.1]
theorem val_plus {p q : Frc} (hp : 0 < p.2) (hq : 0 < q.2) : val (plus p q) = val p + val q := by
  unfold plus
  rw [val_low (Int.mul_pos hp hq)]
  unfold val
  rw [Rat.divInt_add_divInt _ _ (by omega) (by omega)]
theorem val_times {p q : Frc} (hp : 0 < p.2) (hq : 0 < q.2) : val (times p q) = val p * val q := by
  unfold times
  rw [val_low (Int.mul_pos hp hq)]
  unfold val
  rw [Rat.divInt_mul_divInt]
theorem plus_pos {p q : Frc} (hp : 0 < p.2) (hq : 0 < q.2) : 0 < (plus p q).2 := low_pos (Int.mul_pos hp hq)
theorem times_pos {p q : Frc} (hp : 0 < p.2) (hq : 0 < q.2) : 0 < (times p q).2 := low_pos (Int.mul_pos hp hq)
theorem val_int (i : Int) : val (i, 1) = (i : Rat) := by
  unfold val
  rw [Rat.divInt_eq_div]
  show (i : Rat) / (1 : Rat) = i
  grind
theorem val_rest {c : Frc} (hc : 0 < c.2) : val (rest c) = 1 - val c := by
  unfold rest val
  show Rat.divInt (c.2 - c.1) c.2 = 1 - Rat.divInt c.1 c.2
  have e1 : (1 : Rat) = Rat.divInt c.2 c.2 := by
    rw [Rat.divInt_self' (by omega)]
  rw [e1, Rat.divInt_sub_divInt _ _ (by omega) (by omega), Rat.divInt_eq_divInt_iff (by omega) (by
    have := Int.mul_pos hc hc
    omega)]
  grind
theorem less_val {p q : Frc} (hp : 0 < p.2) (hq : 0 < q.2) : less p q = decide (val p < val q) := by
  unfold less val
  refine decide_eq_decide.mpr ?_
  rw [← Rat.not_le, Rat.le_iff_sub_nonneg, Rat.divInt_sub_divInt _ _ (by omega) (by omega), Rat.divInt_nonneg_iff_of_pos_right (Int.mul_pos hp hq)]
  omega

/-- in lowest terms -/
def Red (p : Frc) : Prop := 0 < p.2 ∧ Int.gcd p.1 p.2 = 1
theorem low_red {t b : Int} (h : 0 < b) : Red (low t b) := by
  refine ⟨low_pos h, ?_⟩
  have hg : 0 < Int.gcd t b := Int.gcd_pos_of_ne_zero_right t (by omega)
  unfold low
  rw [Int.gcd_ediv (Int.gcd_dvd_left ..) (Int.gcd_dvd_right ..)]
  simp [Nat.div_self hg]
theorem plus_red {p q : Frc} (hp : 0 < p.2) (hq : 0 < q.2) : Red (plus p q) := low_red (Int.mul_pos hp hq)
theorem times_red {p q : Frc} (hp : 0 < p.2) (hq : 0 < q.2) : Red (times p q) := low_red (Int.mul_pos hp hq)
theorem plus_zero {q : Frc} (h : Red q) : plus (0, 1) q = q := by
  unfold plus low
  have e : Int.gcd (0 * q.2 + q.1 * 1) (1 * q.2) = 1 := by
    rw [Int.zero_mul, Int.zero_add, Int.mul_one, Int.one_mul]
    exact h.2
  simp only [e]
  simp

/-! how large -/
def Bd (k : Nat) (p : Frc) : Prop := p.1.natAbs < 2 ^ k ∧ p.2.natAbs < 2 ^ k
theorem Bd.mono {j k : Nat} {p : Frc} (h : Bd j p) (l : j ≤ k) : Bd k p :=
  ⟨Nat.lt_of_lt_of_le h.1 (Nat.pow_le_pow_right (by decide) l), Nat.lt_of_lt_of_le h.2 (Nat.pow_le_pow_right (by decide) l)⟩
theorem ediv_natAbs_le (t : Int) (g : Nat) : (t / (g : Int)).natAbs ≤ t.natAbs := by
  exact Int.natAbs_ediv_le_natAbs t g
theorem low_bd {k : Nat} {t b : Int} (h1 : t.natAbs < 2 ^ k) (h2 : b.natAbs < 2 ^ k) : Bd k (low t b) :=
  ⟨Nat.lt_of_le_of_lt (ediv_natAbs_le ..) h1, Nat.lt_of_le_of_lt (ediv_natAbs_le ..) h2⟩
theorem mul_lt {i j : Nat} {a b : Int} (ha : a.natAbs < 2 ^ i) (hb : b.natAbs < 2 ^ j) : (a * b).natAbs < 2 ^ (i + j) := by
  rw [Int.natAbs_mul, Nat.pow_add]
  exact Nat.mul_lt_mul'' ha hb
theorem add_lt {i : Nat} {a b : Int} (ha : a.natAbs < 2 ^ i) (hb : b.natAbs < 2 ^ i) : (a + b).natAbs < 2 ^ (i + 1) := by
  have := Int.natAbs_add_le a b
  rw [Nat.pow_succ]
  omega
theorem pow_lt {i j a : Nat} (h : a < 2 ^ i) (l : i ≤ j) : a < 2 ^ j := Nat.lt_of_lt_of_le h (Nat.pow_le_pow_right (by decide) l)
theorem plus_raw {i j : Nat} {p q : Frc} (hp : Bd i p) (hq : Bd j q) : (p.1 * q.2 + q.1 * p.2).natAbs < 2 ^ (i + j + 1) ∧ (p.2 * q.2).natAbs < 2 ^ (i + j + 1) :=
  ⟨add_lt (mul_lt hp.1 hq.2) (by rw [Nat.add_comm i j]; exact mul_lt hq.1 hp.2), pow_lt (mul_lt hp.2 hq.2) (by omega)⟩
theorem plus_bd {i j : Nat} {p q : Frc} (hp : Bd i p) (hq : Bd j q) : Bd (i + j + 1) (plus p q) := low_bd (plus_raw hp hq).1 (plus_raw hp hq).2
theorem times_bd {i j : Nat} {p q : Frc} (hp : Bd i p) (hq : Bd j q) : Bd (i + j) (times p q) := low_bd (mul_lt hp.1 hq.1) (mul_lt hp.2 hq.2)

/-- a chance -/
structure Ch (c : Frc) : Prop where
  lo : 0 ≤ c.1
  le : c.1 ≤ c.2
  pos : 0 < c.2
  hi : c.2 ≤ 100
theorem Ch.bd {c : Frc} (h : Ch c) : Bd 7 c := by
  obtain ⟨a, b, d, e⟩ := h
  exact ⟨by omega, by omega⟩
theorem Ch.rbd {c : Frc} (h : Ch c) : Bd 7 (Km.rest c) := by
  obtain ⟨a, b, d, e⟩ := h
  exact ⟨by show (c.2 - c.1).natAbs < 2 ^ 7; omega, by show c.2.natAbs < 2 ^ 7; omega⟩
theorem Ch.rpos {c : Frc} (h : Ch c) : 0 < (Km.rest c).2 := h.pos
theorem Ch.val0 {c : Frc} (h : Ch c) : 0 ≤ val c := Rat.divInt_nonneg h.lo (by have := h.pos; omega)
theorem Ch.val1 {c : Frc} (h : Ch c) : val c ≤ 1 := by
  have e := val_rest h.pos
  have : 0 ≤ val (Km.rest c) := Rat.divInt_nonneg (by show 0 ≤ c.2 - c.1; have := h.le; omega) (by show 0 ≤ c.2; have := h.pos; omega)
  rw [e] at this
  grind
theorem nat_bd {w : Nat} {k : Nat} (h : w < 2 ^ k) (hk : 0 < k) : Bd k ((w : Int), 1) := ⟨by simpa using h, by simp; omega⟩
theorem average_bd {k : Nat} {c y n : Frc} {w : Nat} (hc : Ch c) (hw : w ≤ 1000) (hy : Bd k y) (hn : Bd k n) : Bd (26 + 2 * k) (average c w y n) := by
  have h1 := plus_bd (nat_bd (w := w) (k := 10) (by omega) (by decide)) hy
  have h2 := times_bd hc.bd h1
  have h3 := times_bd hc.rbd hn
  exact (plus_bd h2 h3).mono (by omega)
theorem average_red {c y n : Frc} {w : Int} (hc : Ch c) (hy : 0 < y.2) (hn : 0 < n.2) : Red (average c w y n) :=
  plus_red (times_pos hc.pos (plus_pos (p := (w, 1)) Int.one_pos hy)) (times_pos hc.rpos hn)
theorem val_average {c y n : Frc} {w : Int} (hc : Ch c) (hy : 0 < y.2) (hn : 0 < n.2) : val (average c w y n) = val c * ((w : Rat) + val y) + (1 - val c) * val n := by
  have h1 : (0 : Int) < ((w, 1) : Frc).2 := Int.one_pos
  unfold average
  rw [val_plus (times_pos hc.pos (plus_pos h1 hy)) (times_pos hc.rpos hn), val_times hc.pos (plus_pos h1 hy), val_times hc.rpos hn, val_plus h1 hy, val_int, val_rest hc.pos]
end Km

/-! the mathematics, 2: webs, stands, the best worth -/
namespace Km
structure Tie where
  a : Nat
  b : Nat
  c : Frc
  w : Nat
structure Web where
  things : Nat
  ties : List Tie
  pat : List Nat
  asks : Nat
abbrev Stand := List Nat × List Nat
abbrev Known := List (Nat × Bool)
abbrev Wide := List Nat × List Nat × Known
abbrev Groups := List (List Nat)

def Web.tie (W : Web) (t : Nat) : Tie := W.ties.getD t ⟨0, 0, (0, 1), 0⟩
def Web.n (W : Web) : Nat := W.ties.length
def nle (a b : Nat) : Bool := decide ((a : Int) ≤ (b : Int))
def sortN (l : List Nat) : List Nat := l.mergeSort nle
def kle (p q : Nat × Bool) : Bool := !(if (q.1 : Int) = (p.1 : Int) then (if q.2 = p.2 then false else (!q.2 && p.2)) else decide ((q.1 : Int) < (p.1 : Int)))
def sortK (l : Known) : Known := l.mergeSort kle
def Web.ends (W : Web) (t : Nat) : List Nat := [(W.tie t).a, (W.tie t).b]
def timesAsked (W : Web) (asked : List Nat) (th : Nat) : Nat := (asked.filter fun t => (W.ends t).contains th).length
def thingOk (W : Web) (s : Stand) (th : Nat) : Bool := !(s.2.contains th || decide (timesAsked W s.1 th ≥ W.pat.getD th 0))
def mayAsk (W : Web) (s : Stand) (t : Nat) : Bool := !(s.1.contains t || decide (s.1.length ≥ W.asks)) && (W.ends t).all (thingOk W s)
def askable (W : Web) (s : Stand) : List Nat := (List.range W.n).filter (mayAsk W s)
def behind (W : Web) (s : Stand) (t : Nat) (b : Bool) : Stand := (sortN (s.1 ++ [t]), if b then sortN (s.2 ++ W.ends t) else s.2)
def groupOf (G : Groups) (t : Nat) : Nat := G.findIdx (·.contains t)
def told (G : Groups) (k : Known) (t : Nat) : List Bool := (k.filter fun p => p.1 == groupOf G t).map (·.2)
def truths (G : Groups) (k : Known) (t : Nat) : List Bool := if told G k t = [] then [true, false] else told G k t
def knownBehind (G : Groups) (k : Known) (t : Nat) (b : Bool) : Known := sortK ((k.filter fun p => p.1 != groupOf G t) ++ [(groupOf G t, b)])
def Wide.st (s : Wide) : Stand := (s.1, s.2.1)
def wbehind (W : Web) (G : Groups) (s : Wide) (t : Nat) (b : Bool) : Wide := ((behind W (Wide.st s) t b).1, (behind W (Wide.st s) t b).2, knownBehind G s.2.2 t b)
def askW (W : Web) (G : Groups) (U : Wide → Frc) (s : Wide) (t : Nat) : Frc :=
  match told G s.2.2 t with
  | [] => average (W.tie t).c (W.tie t).w (U (wbehind W G s t true)) (U (wbehind W G s t false))
  | true :: _ => plus (((W.tie t).w : Int), 1) (U (wbehind W G s t true))
  | false :: _ => U (wbehind W G s t false)
def bestOf (f : Nat → Frc) (l : List Nat) : Frc := l.foldl (fun b t => if less b (f t) then f t else b) (0, 1)
def VW (W : Web) (G : Groups) : Nat → Wide → Frc
  | 0, _ => (0, 1)
  | k + 1, s => bestOf (askW W G (VW W G k) s) (askable W (Wide.st s))
def askS (W : Web) (U : Stand → Frc) (s : Stand) (t : Nat) : Frc := average (W.tie t).c (W.tie t).w (U (behind W s t true)) (U (behind W s t false))
def VS (W : Web) : Nat → Stand → Frc
  | 0, _ => (0, 1)
  | k + 1, s => bestOf (askS W (VS W k) s) (askable W s)

structure TieOk (things : Nat) (T : Tie) : Prop where
  a : T.a < things
  b : T.b < things
  c : Ch T.c
  w : T.w ≤ 1000
structure WebOk (W : Web) : Prop where
  ties : ∀ T ∈ W.ties, TieOk W.things T
  pat : W.pat.length = W.things
  few : W.ties.length ≤ 5
  th : W.things ≤ 100
theorem dflt_ch : Ch ((0, 1) : Frc) := ⟨by decide, by decide, by decide, by decide⟩
theorem WebOk.ch {W : Web} (h : WebOk W) (t : Nat) : Ch (W.tie t).c ∧ (W.tie t).w ≤ 1000 := by
  unfold Web.tie
  by_cases ht : t < W.ties.length
  · rw [← List.getElem_eq_getD ⟨0, 0, (0, 1), 0⟩ (h := ht)]
    have := h.ties _ (List.getElem_mem ht)
    exact ⟨this.c, this.w⟩
  · rw [List.getD_eq_getElem?_getD, List.getElem?_eq_none (by omega)]
    exact ⟨dflt_ch, by decide⟩
theorem mem_sortN {l : List Nat} {x : Nat} : x ∈ sortN l ↔ x ∈ l := List.mem_mergeSort
theorem len_sortN (l : List Nat) : (sortN l).length = l.length := List.length_mergeSort l
theorem mem_sortK {l : Known} {x : Nat × Bool} : x ∈ sortK l ↔ x ∈ l := List.mem_mergeSort
theorem perm_sortN (l : List Nat) : (sortN l).Perm l := List.mergeSort_perm ..
theorem perm_sortK (l : Known) : (sortK l).Perm l := List.mergeSort_perm ..

/-! ### the greatest of some -/
theorem bestOf_congr {f g : Nat → Frc} {l : List Nat} (h : ∀ t ∈ l, f t = g t) : bestOf f l = bestOf g l := by
  unfold bestOf
  have : ∀ (l : List Nat) (b : Frc), (∀ t ∈ l, f t = g t) → l.foldl (fun b t => if less b (f t) then f t else b) b = l.foldl (fun b t => if less b (g t) then g t else b) b := by
    intro l
    induction l with
    | nil => intro b _; rfl
    | cons t l ih =>
      intro b h
      simp only [List.foldl_cons]
      rw [h t List.mem_cons_self]
      exact ih _ fun u hu => h u (List.mem_cons_of_mem _ hu)
  exact this l _ h
theorem bestOf_snoc (f : Nat → Frc) (l : List Nat) (t : Nat) : bestOf f (l ++ [t]) = if less (bestOf f l) (f t) then f t else bestOf f l := by
  unfold bestOf
  rw [List.foldl_append]
  rfl
theorem bestOf_ind {P : Frc → Prop} {f : Nat → Frc} (h0 : P (0, 1)) : ∀ {l : List Nat}, (∀ t ∈ l, P (f t)) → P (bestOf f l) := by
  intro l
  have : ∀ (l : List Nat) (b : Frc), P b → (∀ t ∈ l, P (f t)) → P (l.foldl (fun b t => if less b (f t) then f t else b) b) := by
    intro l
    induction l with
    | nil => intro b hb _; exact hb
    | cons t l ih =>
      intro b hb h
      simp only [List.foldl_cons]
      refine ih _ ?_ fun u hu => h u (List.mem_cons_of_mem _ hu)
      split
      · exact h t List.mem_cons_self
      · exact hb
  exact this l _ h0
theorem bestOf_ge {f : Nat → Frc} {l : List Nat} (h : ∀ t ∈ l, 0 < (f t).2) : 0 ≤ val (bestOf f l) ∧ ∀ t ∈ l, val (f t) ≤ val (bestOf f l) := by
  have : ∀ (l : List Nat) (b : Frc), 0 < b.2 → (∀ t ∈ l, 0 < (f t).2) → val b ≤ val (l.foldl (fun b t => if less b (f t) then f t else b) b) ∧ ∀ t ∈ l, val (f t) ≤ val (l.foldl (fun b t => if less b (f t) then f t else b) b) := by
    intro l
    induction l with
    | nil => intro b hb _; exact ⟨Rat.le_refl, fun _ h => by cases h⟩
    | cons t l ih =>
      intro b hb h
      simp only [List.foldl_cons]
      have ht := h t List.mem_cons_self
      have hl := less_val hb ht
      by_cases hc : val b < val (f t)
      · rw [if_pos (by rw [hl]; exact decide_eq_true hc)]
        obtain ⟨i1, i2⟩ := ih (f t) ht fun u hu => h u (List.mem_cons_of_mem _ hu)
        refine ⟨by grind, fun u hu => ?_⟩
        rcases List.mem_cons.mp hu with rfl | hu
        · exact i1
        · exact i2 u hu
      · rw [if_neg (by rw [hl, decide_eq_false hc]; decide)]
        obtain ⟨i1, i2⟩ := ih b hb fun u hu => h u (List.mem_cons_of_mem _ hu)
        refine ⟨i1, fun u hu => ?_⟩
        rcases List.mem_cons.mp hu with rfl | hu
        · grind
        · exact i2 u hu
  obtain ⟨i1, i2⟩ := this l (0, 1) (by decide) h
  refine ⟨?_, i2⟩
  have e : val (0, 1) = 0 := by rw [val_int]; rfl
  rw [e] at i1
  exact i1

/-! ### how large -/
def bits : Nat → Nat
  | 0 => 1
  | k + 1 => 26 + 2 * bits k
structure Fine (k : Nat) (p : Frc) : Prop where
  red : Red p
  bd : Bd k p
  nn : 0 ≤ p.1
theorem Fine.pos {k : Nat} {p : Frc} (h : Fine k p) : 0 < p.2 := h.red.1
theorem Fine.mono {j k : Nat} {p : Frc} (h : Fine j p) (l : j ≤ k) : Fine k p := ⟨h.red, h.bd.mono l, h.nn⟩
theorem fine0 {k : Nat} (h : 0 < k) : Fine k (0, 1) := ⟨⟨by decide, by decide⟩, Bd.mono (j := 1) ⟨by decide, by decide⟩ h, by decide⟩
theorem low_nn {t b : Int} (h : 0 ≤ t) : 0 ≤ (low t b).1 := Int.ediv_nonneg h (by omega)
theorem average_fine {k : Nat} {c y n : Frc} {w : Nat} (hc : Ch c) (hw : w ≤ 1000) (hy : Fine k y) (hn : Fine k n) : Fine (26 + 2 * k) (average c w y n) := by
  refine ⟨average_red hc hy.pos hn.pos, average_bd hc hw hy.bd hn.bd, low_nn ?_⟩
  have p1 : (0 : Int) ≤ (plus ((w : Int), 1) y).1 := low_nn (Int.add_nonneg (Int.mul_nonneg (by show (0 : Int) ≤ (w : Int); omega) (Int.le_of_lt hy.pos)) (Int.mul_nonneg hy.nn (Int.le_of_lt Int.one_pos)))
  have q1 : (0 : Int) ≤ (times c (plus ((w : Int), 1) y)).1 := low_nn (Int.mul_nonneg hc.lo p1)
  have q2 : (0 : Int) < (times c (plus ((w : Int), 1) y)).2 := times_pos hc.pos (plus_pos (by exact Int.one_pos) hy.pos)
  have r1 : (0 : Int) ≤ (times (rest c) n).1 := low_nn (Int.mul_nonneg (by show 0 ≤ c.2 - c.1; have := hc.le; omega) hn.nn)
  have r2 : (0 : Int) < (times (rest c) n).2 := times_pos hc.rpos hn.pos
  exact Int.add_nonneg (Int.mul_nonneg q1 (Int.le_of_lt r2)) (Int.mul_nonneg r1 (Int.le_of_lt q2))
theorem bits_pos (k : Nat) : 0 < bits k := by
  cases k with
  | zero => decide
  | succ k => unfold bits; omega
theorem bits_mono : ∀ {j k : Nat}, j ≤ k → bits j ≤ bits k := by
  intro j k h
  induction h with
  | refl => exact Nat.le_refl _
  | step _ ih => exact Nat.le_trans ih (by show _ ≤ 26 + 2 * bits _; omega)
theorem bits5 {k : Nat} (h : k ≤ 5) : bits k ≤ 838 := bits_mono (j := k) (k := 5) h
theorem askS_fine {W : Web} (h : WebOk W) {U : Stand → Frc} {k : Nat} (hU : ∀ s, Fine k (U s)) (s : Stand) (t : Nat) : Fine (26 + 2 * k) (askS W U s t) := average_fine (h.ch t).1 (h.ch t).2 (hU _) (hU _)
theorem plus_fine {k : Nat} {y : Frc} {w : Nat} (hw : w ≤ 1000) (hy : Fine k y) : Fine (11 + k) (plus ((w : Int), 1) y) :=
  ⟨plus_red (by exact Int.one_pos) hy.pos, (plus_bd (nat_bd (w := w) (k := 10) (by omega) (by decide)) hy.bd).mono (by omega), low_nn (Int.add_nonneg (Int.mul_nonneg (by show (0 : Int) ≤ (w : Int); omega) (Int.le_of_lt hy.pos)) (Int.mul_nonneg hy.nn (Int.le_of_lt Int.one_pos)))⟩
theorem askW_fine {W : Web} {G : Groups} (h : WebOk W) {U : Wide → Frc} {k : Nat} (hU : ∀ s, Fine k (U s)) (s : Wide) (t : Nat) : Fine (26 + 2 * k) (askW W G U s t) := by
  unfold askW
  split
  · exact average_fine (h.ch t).1 (h.ch t).2 (hU _) (hU _)
  · exact (plus_fine (h.ch t).2 (hU _)).mono (by omega)
  · exact (hU _).mono (by omega)
theorem VW_fine {W : Web} {G : Groups} (h : WebOk W) : ∀ (k : Nat) (s : Wide), Fine (bits k) (VW W G k s)
  | 0, s => fine0 (by decide)
  | k + 1, s => bestOf_ind (P := Fine (bits (k + 1))) (fine0 (bits_pos _)) fun t _ => askW_fine h (VW_fine h k) s t
theorem VS_fine {W : Web} (h : WebOk W) : ∀ (k : Nat) (s : Stand), Fine (bits k) (VS W k s)
  | 0, s => fine0 (by decide)
  | k + 1, s => bestOf_ind (P := Fine (bits (k + 1))) (fine0 (bits_pos _)) fun t _ => askS_fine h (VS_fine h k) s t

/-! ### stands that may come -/
structure SP (W : Web) (s : Stand) : Prop where
  nd : s.1.Nodup
  lt : ∀ t ∈ s.1, t < W.n
  tk : s.2.length ≤ 2 * s.1.length
theorem mem_askable {W : Web} {s : Stand} {t : Nat} : t ∈ askable W s ↔ t < W.n ∧ mayAsk W s t = true := by
  unfold askable
  rw [List.mem_filter, List.mem_range]
theorem mayAsk_notin {W : Web} {s : Stand} {t : Nat} (h : mayAsk W s t = true) : t ∉ s.1 := by
  unfold mayAsk at h
  simp at h
  exact h.1.1
theorem behind_len (W : Web) (s : Stand) (t : Nat) (b : Bool) : (behind W s t b).1.length = s.1.length + 1 := by
  unfold behind
  simp [len_sortN]
theorem SP.behind {W : Web} {s : Stand} (h : SP W s) {t : Nat} (ht : t ∈ askable W s) (b : Bool) : SP W (behind W s t b) := by
  obtain ⟨h1, h2⟩ := mem_askable.mp ht
  have h3 := mayAsk_notin h2
  refine ⟨(perm_sortN _).nodup_iff.mpr ?_, fun u hu => ?_, ?_⟩
  · rw [List.nodup_append]
    exact ⟨h.nd, by simp, fun a ha b hb => by rw [List.mem_singleton] at hb; subst hb; exact fun e => h3 (e ▸ ha)⟩
  · have hu' : u ∈ s.1 ++ [t] := mem_sortN.mp hu
    rcases List.mem_append.mp hu' with q | q
    · exact h.lt u q
    · rw [List.mem_singleton.mp q]; exact h1
  · have := h.tk
    rw [behind_len]
    cases b with
    | true =>
      show (sortN (s.2 ++ W.ends t)).length ≤ _
      rw [len_sortN, List.length_append]
      show s.2.length + 2 ≤ _
      omega
    | false =>
      show s.2.length ≤ _
      omega
theorem nodup_lt_len (n : Nat) (l : List Nat) (hn : l.Nodup) (hl : ∀ t ∈ l, t < n) : l.length ≤ n := by
  have h := List.Nodup.length_le_of_subset hn (l₂ := List.range n) fun t ht => List.mem_range.mpr (hl t ht)
  rw [List.length_range] at h
  exact h
theorem SP.len {W : Web} {s : Stand} (h : SP W s) : s.1.length ≤ W.n := nodup_lt_len _ _ h.nd h.lt
/-- where an ask is left, fewer were made than there are ties -/
theorem SP.more {W : Web} {s : Stand} (h : SP W s) {t : Nat} (ht : t ∈ askable W s) : s.1.length < W.n := by
  have := (h.behind ht true).len
  rw [behind_len] at this
  omega
theorem SP.full {W : Web} {s : Stand} (h : SP W s) (e : W.n ≤ s.1.length) : askable W s = [] := by
  cases q : askable W s with
  | nil => rfl
  | cons t l =>
    have := h.more (t := t) (by rw [q]; exact List.mem_cons_self)
    omega
theorem SP.tlen {W : Web} {s : Stand} (h : SP W s) : s.2.length ≤ 2 * W.n := by have := h.len; have := h.tk; omega
def vS (W : Web) (s : Stand) : Frc := VS W (W.n - s.1.length) s
def vW (W : Web) (G : Groups) (s : Wide) : Frc := VW W G (W.n - s.1.length) s
theorem vS_eq {W : Web} {s : Stand} (h : SP W s) : vS W s = bestOf (askS W (vS W) s) (askable W s) := by
  unfold vS
  by_cases e : W.n ≤ s.1.length
  · rw [h.full e, Nat.sub_eq_zero_of_le e]
    rfl
  · obtain ⟨k, hk⟩ : ∃ k, W.n - s.1.length = k + 1 := ⟨W.n - s.1.length - 1, by omega⟩
    rw [hk]
    show bestOf _ _ = _
    refine bestOf_congr fun t _ => ?_
    unfold askS
    dsimp only
    rw [behind_len, behind_len, show W.n - (s.1.length + 1) = k by omega]
structure WP (W : Web) (G : Groups) (s : Wide) : Prop where
  sp : SP W (Wide.st s)
  kn : (s.2.2.map (·.1)).Nodup
  cl : ∀ p ∈ s.2.2, ∃ t ∈ s.1, groupOf G t = p.1
theorem WP.klen {W : Web} {G : Groups} {s : Wide} (h : WP W G s) : s.2.2.length ≤ W.n := by
  have h1 := List.Nodup.length_le_of_subset h.kn (l₂ := s.1.map (groupOf G)) fun g hg => by
    obtain ⟨p, hp, rfl⟩ := List.mem_map.mp hg
    obtain ⟨t, ht, e⟩ := h.cl p hp
    exact List.mem_map.mpr ⟨t, ht, e⟩
  rw [List.length_map, List.length_map] at h1
  exact Nat.le_trans h1 h.sp.len
theorem wbehind_len (W : Web) (G : Groups) (s : Wide) (t : Nat) (b : Bool) : (wbehind W G s t b).1.length = s.1.length + 1 := behind_len W (Wide.st s) t b
theorem WP.behind {W : Web} {G : Groups} {s : Wide} (h : WP W G s) {t : Nat} (ht : t ∈ askable W (Wide.st s)) (b : Bool) : WP W G (wbehind W G s t b) := by
  refine ⟨h.sp.behind ht b, ?_, fun p hp => ?_⟩
  · show ((knownBehind G s.2.2 t b).map (·.1)).Nodup
    unfold knownBehind
    refine ((perm_sortK _).map _).nodup_iff.mpr ?_
    rw [List.map_append, List.nodup_append]
    refine ⟨List.Sublist.nodup ((List.filter_sublist).map _) h.kn, by simp, fun a ha c hc => ?_⟩
    obtain ⟨p, hp, rfl⟩ := List.mem_map.mp ha
    have := (List.mem_filter.mp hp).2
    simp at hc this
    rw [hc]; exact this
  · have hp' : p ∈ (s.2.2.filter fun p => p.1 != groupOf G t) ++ [(groupOf G t, b)] := mem_sortK.mp hp
    rcases List.mem_append.mp hp' with q | q
    · obtain ⟨u, hu, e⟩ := h.cl p (List.mem_filter.mp q).1
      exact ⟨u, mem_sortN.mpr (List.mem_append_left _ hu), e⟩
    · refine ⟨t, mem_sortN.mpr (List.mem_append_right _ (List.mem_singleton.mpr rfl)), ?_⟩
      rw [List.mem_singleton.mp q]
theorem vW_eq {W : Web} {G : Groups} {s : Wide} (h : WP W G s) : vW W G s = bestOf (askW W G (vW W G) s) (askable W (Wide.st s)) := by
  unfold vW
  by_cases e : W.n ≤ s.1.length
  · rw [h.sp.full e, Nat.sub_eq_zero_of_le e]
    rfl
  · obtain ⟨k, hk⟩ : ∃ k, W.n - s.1.length = k + 1 := ⟨W.n - s.1.length - 1, by omega⟩
    rw [hk]
    show bestOf _ _ = _
    refine bestOf_congr fun t _ => ?_
    unfold askW
    dsimp only
    rw [wbehind_len, wbehind_len, show W.n - (s.1.length + 1) = k by omega]
theorem vW_fine {W : Web} {G : Groups} (h : WebOk W) (s : Wide) : Fine 838 (vW W G s) := (VW_fine h _ s).mono (bits5 (Nat.le_trans (Nat.sub_le _ _) h.few))
theorem vS_fine {W : Web} (h : WebOk W) (s : Stand) : Fine 838 (vS W s) := (VS_fine h _ s).mono (bits5 (Nat.le_trans (Nat.sub_le _ _) h.few))
theorem told_one {W : Web} {G : Groups} {s : Wide} (h : WP W G s) (t : Nat) : (told G s.2.2 t).length ≤ 1 := by
  have hk := h.kn
  generalize s.2.2 = k at hk ⊢
  unfold told
  rw [List.length_map]
  induction k with
  | nil => simp
  | cons p k ih =>
    rw [List.map_cons, List.nodup_cons] at hk
    rw [List.filter_cons]
    split
    · rename_i hp
      have hz : (k.filter fun p => p.1 == groupOf G t) = [] := by
        rw [List.filter_eq_nil_iff]
        intro q hq he
        simp at hp he
        exact hk.1 (List.mem_map.mpr ⟨q, hq, by rw [he, hp]⟩)
      rw [hz]
      simp
    · exact ih hk.2

/-! ### groups of one tie each -/
def alone (n : Nat) : Groups := (List.range n).map fun t => [t]
theorem groupOf_alone {n t : Nat} (h : t < n) : groupOf (alone n) t = t := by
  unfold groupOf alone
  rw [List.findIdx_eq (by simpa using h)]
  simp
  intro j hj e
  omega
theorem told_alone {W : Web} {s : Wide} (h : WP W (alone W.n) s) {t : Nat} (ht : t ∈ askable W (Wide.st s)) : told (alone W.n) s.2.2 t = [] := by
  unfold told
  rw [List.map_eq_nil_iff, List.filter_eq_nil_iff]
  intro p hp e
  obtain ⟨u, hu, hg⟩ := h.cl p hp
  obtain ⟨h1, h2⟩ := mem_askable.mp ht
  rw [groupOf_alone (h.sp.lt u hu)] at hg
  rw [groupOf_alone h1] at e
  simp at e
  rw [← hg] at e
  exact mayAsk_notin h2 (e ▸ hu)
theorem vW_alone {W : Web} : ∀ (k : Nat) (s : Wide), WP W (alone W.n) s → VW W (alone W.n) k s = VS W k (Wide.st s)
  | 0, _, _ => rfl
  | k + 1, s, h => by
    show bestOf _ _ = bestOf _ _
    refine bestOf_congr fun t ht => ?_
    unfold askW askS
    rw [told_alone h ht]
    show average _ _ _ _ = average _ _ _ _
    rw [vW_alone k _ (h.behind ht true), vW_alone k _ (h.behind ht false)]
    rfl
end Km

/-! the mathematics, 3: all stands, each behind one with an ask fewer -/
namespace Km
section
variable {S : Type} [DecidableEq S]
def addNew (f : List S) (s : S) : List S := if s ∈ f then f else f ++ [s]
def pot (m : Nat) : Nat → Nat
  | 0 => 1
  | k + 1 => 1 + m * pot m k
theorem pot_pos (m k : Nat) : 0 < pot m k := by
  cases k with
  | zero => exact Nat.one_pos
  | succ k => unfold pot; omega
structure Grow (succ : S → List S) (size : S → Nat) (n m : Nat) (P : S → Prop) : Prop where
  p : ∀ s, P s → ∀ u ∈ succ s, P u
  sz : ∀ s, ∀ u ∈ succ s, size u = size s + 1
  lt : ∀ s, P s → succ s ≠ [] → size s < n
  few : ∀ s, (succ s).length ≤ m
structure Bfs (succ : S → List S) (size : S → Nat) (n m : Nat) (P : S → Prop) (first : S) (i : Nat) (found : List S) : Prop where
  nd : found.Nodup
  hd : found[0]? = some first
  p : ∀ s ∈ found, P s
  up : found.Pairwise (fun a b => size a ≤ size b)
  done : ∀ (j : Nat) (s : S), j < i → found[j]? = some s → ∀ u ∈ succ s, u ∈ found
  near : ∀ s, found[i]? = some s → ∀ u ∈ found, size u ≤ size s + 1
  pot : i + ((found.drop i).map fun s => pot m (n - size s)).sum ≤ pot m n
  le : i ≤ found.length
variable {succ : S → List S} {size : S → Nat} {n m : Nat} {P : S → Prop} {first : S}
theorem Bfs.start (h : P first) (h0 : size first = 0) : Bfs succ size n m P first 0 [first] where
  nd := by simp
  hd := rfl
  p := fun s hs => by rw [List.mem_singleton.mp hs]; exact h
  up := List.pairwise_singleton ..
  done := fun j s hj => absurd hj (Nat.not_lt_zero _)
  near := fun s hs u hu => by rw [List.mem_singleton.mp hu, h0]; exact Nat.zero_le _
  pot := by simp [h0]
  le := Nat.zero_le _
/-- what a row of new ones makes of it -/
theorem addNew_fold : ∀ (l f : List S), f.Nodup → ∃ new, l.foldl addNew f = f ++ new ∧ (f ++ new).Nodup ∧ (∀ x ∈ new, x ∈ l) ∧ new.length ≤ l.length ∧ ∀ x ∈ l, x ∈ f ++ new
  | [], f, h => ⟨[], by simp, by simpa using h, by simp, by simp, by simp⟩
  | x :: l, f, h => by
    rw [List.foldl_cons]
    by_cases hx : x ∈ f
    · rw [show addNew f x = f from if_pos hx]
      obtain ⟨new, e, a, b, c, d⟩ := addNew_fold l f h
      refine ⟨new, e, a, fun y hy => List.mem_cons_of_mem _ (b y hy), by rw [List.length_cons]; omega, fun y hy => ?_⟩
      rcases List.mem_cons.mp hy with rfl | hy
      · exact List.mem_append_left _ hx
      · exact d y hy
    · rw [show addNew f x = f ++ [x] from if_neg hx]
      have hn : (f ++ [x]).Nodup := by
        rw [List.nodup_append]
        exact ⟨h, by simp, fun a ha b hb => by rw [List.mem_singleton.mp hb]; exact fun e => hx (e ▸ ha)⟩
      obtain ⟨new, e, a, b, c, d⟩ := addNew_fold l (f ++ [x]) hn
      refine ⟨x :: new, by rw [e]; simp, by simpa using a, fun y hy => ?_, by rw [List.length_cons, List.length_cons]; omega, fun y hy => ?_⟩
      · rcases List.mem_cons.mp hy with rfl | hy
        · exact List.mem_cons_self
        · exact List.mem_cons_of_mem _ (b y hy)
      · rcases List.mem_cons.mp hy with rfl | hy
        · simp
        · have := d y hy
          simpa using this
theorem sum_le_mul {l : List Nat} {c : Nat} (h : ∀ x ∈ l, x ≤ c) : l.sum ≤ l.length * c := by
  induction l with
  | nil => simp
  | cons x l ih =>
    rw [List.sum_cons, List.length_cons, Nat.succ_mul]
    have := h x List.mem_cons_self
    have := ih fun y hy => h y (List.mem_cons_of_mem _ hy)
    omega
theorem Bfs.step (G : Grow succ size n m P) {i : Nat} {found : List S} (B : Bfs succ size n m P first i found) {s : S} (hs : found[i]? = some s) :
    Bfs succ size n m P first (i + 1) ((succ s).foldl addNew found) ∧ ∃ new, (succ s).foldl addNew found = found ++ new := by
  obtain ⟨new, e, hnd, hin, hlen, hall⟩ := addNew_fold (succ s) found B.nd
  obtain ⟨hi, hsi⟩ := List.getElem?_eq_some_iff.mp hs
  have hmem : s ∈ found := List.mem_of_getElem? hs
  rw [e]
  refine ⟨⟨hnd, ?_, fun u hu => ?_, ?_, fun j u hj hu v hv => ?_, fun u hu v hv => ?_, ?_, ?_⟩, new, rfl⟩
  · rw [List.getElem?_append_left (by omega)]; exact B.hd
  · rcases List.mem_append.mp hu with q | q
    · exact B.p u q
    · exact G.p s (B.p s hmem) u (hin u q)
  · rw [List.pairwise_append]
    refine ⟨B.up, ?_, fun a ha b hb => ?_⟩
    · rw [List.pairwise_iff_getElem]
      intro a b ha hb _
      rw [G.sz s _ (hin _ (List.getElem_mem ha)), G.sz s _ (hin _ (List.getElem_mem hb))]
      exact Nat.le_refl _
    · rw [G.sz s b (hin b hb)]
      exact B.near s hs a ha
  · by_cases hj' : j = i
    · subst hj'
      rw [List.getElem?_append_left hi, hs] at hu
      rw [← Option.some.inj hu] at hv
      exact hall v hv
    · rw [List.getElem?_append_left (by omega)] at hu
      exact List.mem_append_left _ (B.done j u (by omega) hu v hv)
  · have hsu : size s ≤ size u := by
      obtain ⟨h1, h2⟩ := List.getElem?_eq_some_iff.mp hu
      by_cases hq : i + 1 < found.length
      · rw [List.getElem_append_left hq] at h2
        rw [← h2, ← hsi]
        exact (List.pairwise_iff_getElem.mp B.up) i (i + 1) hi hq (Nat.lt_succ_self _)
      · rw [List.getElem_append_right (by omega)] at h2
        have := G.sz s u (hin u (h2 ▸ List.getElem_mem _))
        omega
    rcases List.mem_append.mp hv with q | q
    · have := B.near s hs v q
      omega
    · have := G.sz s v (hin v q)
      omega
  · have h1 := B.pot
    have e1 : found.drop i = s :: found.drop (i + 1) := by rw [List.drop_eq_getElem_cons hi, hsi]
    rw [e1, List.map_cons, List.sum_cons] at h1
    rw [List.drop_append_of_le_length (by omega), List.map_append, List.sum_append]
    have hp := pot_pos m (n - size s)
    by_cases hn : new = []
    · subst hn
      simp only [List.map_nil, List.sum_nil]
      omega
    · have hne : succ s ≠ [] := by
        intro q
        rw [q] at hlen
        exact hn (List.eq_nil_of_length_eq_zero (by simpa using hlen))
      have hlt := G.lt s (B.p s hmem) hne
      obtain ⟨k, hk⟩ : ∃ k, n - size s = k + 1 := ⟨n - size s - 1, by omega⟩
      have hsum : (new.map fun s => Km.pot m (n - size s)).sum ≤ m * Km.pot m k := by
        refine Nat.le_trans (sum_le_mul (c := Km.pot m k) fun x hx => ?_) ?_
        · obtain ⟨u, hu, rfl⟩ := List.mem_map.mp hx
          rw [G.sz s u (hin u hu), show n - (size s + 1) = k by omega]
          exact Nat.le_refl _
        · rw [List.length_map]
          exact Nat.mul_le_mul_right _ (Nat.le_trans hlen (G.few s))
      rw [hk] at h1
      have e2 : Km.pot m (k + 1) = 1 + m * Km.pot m k := rfl
      rw [e2] at h1
      omega
  · rw [List.length_append]
    have := B.le
    omega
theorem len_le_pot (m : Nat) (f : S → Nat) (l : List S) : l.length ≤ (l.map fun s => pot m (f s)).sum := by
  induction l with
  | nil => simp
  | cons s l ih =>
    rw [List.map_cons, List.sum_cons, List.length_cons]
    have := pot_pos m (f s)
    omega
theorem Bfs.len {i : Nat} {found : List S} (B : Bfs succ size n m P first i found) : found.length ≤ Km.pot m n := by
  have h1 := B.pot
  have h2 := len_le_pot m (fun s => n - size s) (found.drop i)
  rw [List.length_drop] at h2
  have := B.le
  omega
/-- all stands: nothing is left -/
structure All (succ : S → List S) (size : S → Nat) (N : Nat) (P : S → Prop) (first : S) (L : List S) : Prop where
  nd : L.Nodup
  hd : L[0]? = some first
  p : ∀ s ∈ L, P s
  up : L.Pairwise (fun a b => size a ≤ size b)
  cl : ∀ s ∈ L, ∀ u ∈ succ s, u ∈ L
  len : L.length ≤ N
theorem Bfs.all {i : Nat} {found : List S} (B : Bfs succ size n m P first i found) (hi : found.length ≤ i) : All succ size (Km.pot m n) P first found where
  nd := B.nd
  hd := B.hd
  p := B.p
  up := B.up
  cl := fun s hs u hu => by
    obtain ⟨j, hj, e⟩ := List.getElem_of_mem hs
    exact B.done j s (by omega) (by rw [List.getElem?_eq_getElem hj, e]) u hu
  len := B.len
/-- backwards: what comes of a stand was met before it -/
theorem All.later {N : Nat} {L : List S} (A : All succ size N P first L) (hsz : ∀ s, ∀ u ∈ succ s, size u = size s + 1) {i : Nat} {s : S} (hs : L.reverse[i]? = some s) {u : S} (hu : u ∈ succ s) : u ∈ L.reverse.take i := by
  obtain ⟨hi, e⟩ := List.getElem?_eq_some_iff.mp hs
  rw [List.length_reverse] at hi
  rw [List.getElem_reverse] at e
  have hmem : s ∈ L := by rw [← e]; exact List.getElem_mem _
  obtain ⟨j, hj, ej⟩ := List.getElem_of_mem (A.cl s hmem u hu)
  have hlt : L.length - 1 - i < j := by
    refine Nat.lt_of_not_le fun q => ?_
    have h1 : size L[j] ≤ size L[L.length - 1 - i] := by
      rcases Nat.lt_or_eq_of_le q with q | q
      · exact (List.pairwise_iff_getElem.mp A.up) j (L.length - 1 - i) hj (by omega) q
      · subst q; exact Nat.le_refl _
    rw [ej, e, hsz s u hu] at h1
    omega
  rw [List.mem_iff_getElem?]
  refine ⟨L.length - 1 - j, ?_⟩
  rw [List.getElem?_take, if_pos (by omega), List.getElem?_eq_getElem (by rw [List.length_reverse]; omega), List.getElem_reverse]
  have : L.length - 1 - (L.length - 1 - j) = j := by omega
  simp only [this, ej]
end
/-! the stands and the wide stands -/
def succW (W : Web) (G : Groups) (s : Wide) : List Wide := (askable W (Wide.st s)).flatMap fun t => (truths G s.2.2 t).map (wbehind W G s t)
def succS (W : Web) (s : Stand) : List Stand := (askable W s).flatMap fun t => [behind W s t true, behind W s t false]
theorem truths_len {G : Groups} {k : Known} {t : Nat} : ∀ b ∈ truths G k t, b = true ∨ b = false := fun b _ => by cases b <;> simp
theorem flatMap_len {α β : Type} {f : α → List β} {c : Nat} : ∀ l : List α, (∀ a ∈ l, (f a).length ≤ c) → (l.flatMap f).length ≤ l.length * c
  | [], _ => by simp
  | a :: l, h => by
    rw [List.flatMap_cons, List.length_append, List.length_cons, Nat.succ_mul]
    have h1 := h a List.mem_cons_self
    have h2 := flatMap_len l fun x hx => h x (List.mem_cons_of_mem _ hx)
    omega
theorem askable_len (W : Web) (s : Stand) : (askable W s).length ≤ W.n := by
  unfold askable
  have := List.length_filter_le (mayAsk W s) (List.range W.n)
  rwa [List.length_range] at this
theorem growS {W : Web} : Grow (succS W) (fun s => s.1.length) W.n (W.n * 2) (SP W) where
  p := fun s hs u hu => by
    obtain ⟨t, ht, hu⟩ := List.mem_flatMap.mp hu
    simp at hu
    rcases hu with rfl | rfl
    · exact hs.behind ht _
    · exact hs.behind ht _
  sz := fun s u hu => by
    obtain ⟨t, ht, hu⟩ := List.mem_flatMap.mp hu
    simp at hu
    rcases hu with rfl | rfl
    · exact behind_len ..
    · exact behind_len ..
  lt := fun s hs hne => by
    obtain ⟨u, hu⟩ := List.exists_mem_of_ne_nil _ hne
    obtain ⟨t, ht, hu⟩ := List.mem_flatMap.mp hu
    exact hs.more ht
  few := fun s => Nat.le_trans (flatMap_len (c := 2) _ fun _ _ => Nat.le_refl _) (Nat.mul_le_mul_right _ (askable_len W s))
theorem succW_sz {W : Web} {G : Groups} (s : Wide) : ∀ u ∈ succW W G s, u.1.length = s.1.length + 1 := fun u hu => by
  obtain ⟨t, ht, hu⟩ := List.mem_flatMap.mp hu
  obtain ⟨b, hb, rfl⟩ := List.mem_map.mp hu
  exact wbehind_len ..
/-- the wide stands, whose truths are two at most where they may come -/
def succW2 (W : Web) (G : Groups) (s : Wide) : List Wide := (askable W (Wide.st s)).flatMap fun t => ((truths G s.2.2 t).take 2).map (wbehind W G s t)
theorem truths_take {W : Web} {G : Groups} {s : Wide} (h : WP W G s) (t : Nat) : (truths G s.2.2 t).length ≤ 2 := by
  unfold truths
  have := told_one h t
  split
  · exact Nat.le_refl _
  · omega
theorem succW_eq {W : Web} {G : Groups} {s : Wide} (h : WP W G s) : succW2 W G s = succW W G s := by
  unfold succW succW2
  congr 1
  funext t
  rw [List.take_of_length_le (truths_take h t)]
theorem growW {W : Web} {G : Groups} : Grow (succW2 W G) (fun s => s.1.length) W.n (W.n * 2) (WP W G) where
  p := fun s hs u hu => by
    obtain ⟨t, ht, hu⟩ := List.mem_flatMap.mp hu
    obtain ⟨b, hb, rfl⟩ := List.mem_map.mp hu
    exact hs.behind ht _
  sz := fun s u hu => by
    obtain ⟨t, ht, hu⟩ := List.mem_flatMap.mp hu
    obtain ⟨b, hb, rfl⟩ := List.mem_map.mp hu
    exact wbehind_len ..
  lt := fun s hs hne => by
    obtain ⟨u, hu⟩ := List.exists_mem_of_ne_nil _ hne
    obtain ⟨t, ht, hu⟩ := List.mem_flatMap.mp hu
    exact hs.sp.more ht
  few := fun s => Nat.le_trans (flatMap_len (c := 2) _ fun _ _ => by rw [List.length_map, List.length_take]; omega) (Nat.mul_le_mul_right _ (askable_len W _))
theorem pot_mono {m m' : Nat} (h : m ≤ m') : ∀ {k k' : Nat}, k ≤ k' → pot m k ≤ pot m' k'
  | 0, k', _ => pot_pos m' k'
  | k + 1, 0, l => absurd l (by omega)
  | k + 1, k' + 1, l => by
    show 1 + m * pot m k ≤ 1 + m' * pot m' k'
    have := Nat.mul_le_mul h (pot_mono h (k := k) (k' := k') (by omega))
    omega
theorem pot_web {W : Web} (h : WebOk W) : pot (W.n * 2) W.n ≤ 111111 := Nat.le_trans (pot_mono (m' := 10) (k' := 5) (by have := h.few; unfold Web.n; omega) h.few) (by decide)
theorem SP.first (W : Web) : SP W ([], []) := ⟨by simp, by simp, by simp⟩
theorem WP.first (W : Web) (G : Groups) : WP W G ([], [], []) := ⟨SP.first W, by simp, by simp⟩
end Km

/-! the mathematics, 4: averages over all rows of answers, trees -/
namespace Km
def allAns : Nat → List (List Bool)
  | 0 => [[]]
  | k + 1 => (allAns k).map (· ++ [true]) ++ (allAns k).map (· ++ [false])
theorem allAns_len : ∀ (k : Nat) (a : List Bool), a ∈ allAns k → a.length = k
  | 0, a, h => by rw [List.mem_singleton.mp h]; rfl
  | k + 1, a, h => by
    unfold allAns at h
    rcases List.mem_append.mp h with q | q
    · obtain ⟨b, hb, rfl⟩ := List.mem_map.mp q
      rw [List.length_append, allAns_len k b hb]; rfl
    · obtain ⟨b, hb, rfl⟩ := List.mem_map.mp q
      rw [List.length_append, allAns_len k b hb]; rfl
theorem allAns_count : ∀ k : Nat, (allAns k).length = 2 ^ k
  | 0 => rfl
  | k + 1 => by
    unfold allAns
    rw [List.length_append, List.length_map, List.length_map, allAns_count k, Nat.pow_succ]
    omega
/-- the average -/
def Av (c : Nat → Rat) : Nat → (List Bool → Rat) → Rat
  | 0, f => f []
  | k + 1, f => c k * Av c k (fun a => f (a ++ [true])) + (1 - c k) * Av c k (fun a => f (a ++ [false]))
section
variable {c : Nat → Rat}
theorem Av_congr : ∀ (k : Nat) (f g : List Bool → Rat), (∀ a, a.length = k → f a = g a) → Av c k f = Av c k g
  | 0, f, g, h => h [] rfl
  | k + 1, f, g, h => by
    unfold Av
    rw [Av_congr k _ (fun a => g (a ++ [true])) fun a ha => h _ (by simp [ha]), Av_congr k _ (fun a => g (a ++ [false])) fun a ha => h _ (by simp [ha])]
theorem Av_add : ∀ (k : Nat) (f g : List Bool → Rat), Av c k (fun a => f a + g a) = Av c k f + Av c k g
  | 0, f, g => rfl
  | k + 1, f, g => by
    unfold Av
    rw [Av_add k, Av_add k]
    grind
theorem Av_mul (r : Rat) : ∀ (k : Nat) (f : List Bool → Rat), Av c k (fun a => r * f a) = r * Av c k f
  | 0, f => rfl
  | k + 1, f => by
    unfold Av
    rw [Av_mul r k, Av_mul r k]
    grind
theorem Av_zero (k : Nat) : Av c k (fun _ => 0) = 0 := by
  have := Av_mul (c := c) 0 k (fun _ => 0)
  simp only [Rat.zero_mul] at this
  exact this
theorem Av_one : ∀ (k : Nat), Av c k (fun _ => 1) = 1
  | 0 => rfl
  | k + 1 => by
    unfold Av
    rw [Av_one k]
    grind
theorem Av_nonneg (h0 : ∀ k, 0 ≤ c k) (h1 : ∀ k, c k ≤ 1) : ∀ (k : Nat) (f : List Bool → Rat), (∀ a, 0 ≤ f a) → 0 ≤ Av c k f
  | 0, f, h => h []
  | k + 1, f, h => by
    unfold Av
    have a1 := Rat.mul_nonneg (h0 k) (Av_nonneg h0 h1 k (fun a => f (a ++ [true])) fun a => h _)
    have a2 := Rat.mul_nonneg (show 0 ≤ 1 - c k by have := h1 k; grind) (Av_nonneg h0 h1 k (fun a => f (a ++ [false])) fun a => h _)
    grind
/-- a group's answer stands for itself -/
theorem Av_indep : ∀ (k g : Nat) (b : Bool) (f : List Bool → Rat), g < k → (∀ a, a.length = k → ∀ x, f (a.set g x) = f a) →
    Av c k (fun a => if a.getD g false = b then f a else 0) = (if b then c g else 1 - c g) * Av c k f
  | 0, g, b, f, hg, _ => absurd hg (by omega)
  | k + 1, g, b, f, hg, h => by
    unfold Av
    by_cases e : g = k
    · subst e
      have hT : Av c g (fun a => if (a ++ [true]).getD g false = b then f (a ++ [true]) else 0) = Av c g (fun a => if true = b then f (a ++ [true]) else 0) :=
        Av_congr g _ _ fun a ha => by rw [show (a ++ [true]).getD g false = true by simp [ha]]
      have hF : Av c g (fun a => if (a ++ [false]).getD g false = b then f (a ++ [false]) else 0) = Av c g (fun a => if false = b then f (a ++ [false]) else 0) :=
        Av_congr g _ _ fun a ha => by rw [show (a ++ [false]).getD g false = false by simp [ha]]
      have hE : Av c g (fun a => f (a ++ [true])) = Av c g (fun a => f (a ++ [false])) := Av_congr g _ _ fun a ha => by
        have := h (a ++ [false]) (by simp [ha]) true
        rw [← this]
        congr 1
        rw [List.set_append_right _ _ (by omega)]
        simp [ha]
      rw [hT, hF]
      cases b with
      | true => simp only [if_true, Bool.false_eq_true, if_false]; rw [Av_zero, ← hE]; grind
      | false => simp only [Bool.true_eq_false, if_true, Bool.false_eq_true, if_false]; rw [Av_zero, hE]; grind
    · have hk : g < k := by omega
      have gg : ∀ (x : Bool) (a : List Bool), a.length = k → (a ++ [x]).getD g false = a.getD g false := fun x a ha => by
        rw [List.getD_eq_getElem?_getD, List.getD_eq_getElem?_getD, List.getElem?_append_left (by omega)]
      have hx : ∀ x : Bool, Av c k (fun a => if (a ++ [x]).getD g false = b then f (a ++ [x]) else 0) = (if b then c g else 1 - c g) * Av c k (fun a => f (a ++ [x])) := fun x => by
        rw [Av_congr k _ (fun a => if a.getD g false = b then f (a ++ [x]) else 0) fun a ha => by rw [gg x a ha]]
        refine Av_indep k g b (fun a => f (a ++ [x])) hk fun a ha y => ?_
        have := h (a ++ [x]) (by simp [ha]) y
        rw [← this]
        congr 1
        rw [List.set_append_left _ _ (by omega)]
      rw [hx true, hx false]
      grind
/-- what a row of answers weighs -/
def wt (c : Nat → Rat) : Nat → List Bool → Rat
  | 0, _ => 1
  | k + 1, a => wt c k a * (if a.getD k false then c k else 1 - c k)
theorem wt_append : ∀ (k : Nat) (a : List Bool) (x : Bool), k ≤ a.length → wt c k (a ++ [x]) = wt c k a
  | 0, _, _, _ => rfl
  | k + 1, a, x, h => by
    unfold wt
    rw [wt_append k a x (by omega), List.getD_eq_getElem?_getD, List.getD_eq_getElem?_getD, List.getElem?_append_left (by omega)]
theorem sum_append (l m : List Rat) : (l ++ m).sum = l.sum + m.sum := by
  induction l with
  | nil => simp [Rat.zero_add]
  | cons x l ih => rw [List.cons_append, List.sum_cons, List.sum_cons, ih, Rat.add_assoc]
theorem sum_mul (r : Rat) (l : List Rat) : (l.map fun x => r * x).sum = r * l.sum := by
  induction l with
  | nil => simp [Rat.mul_zero]
  | cons x l ih => rw [List.map_cons, List.sum_cons, List.sum_cons, ih, Rat.mul_add]
theorem sum_rows : ∀ (k : Nat) (f : List Bool → Rat), ((allAns k).map fun a => f a * wt c k a).sum = Av c k f
  | 0, f => by
    unfold allAns Av wt
    simp only [List.map_cons, List.map_nil, List.sum_cons, List.sum_nil]
    grind
  | k + 1, f => by
    unfold allAns Av
    rw [List.map_append, sum_append, List.map_map, List.map_map, ← sum_rows k, ← sum_rows k, ← sum_mul, ← sum_mul, List.map_map, List.map_map]
    congr 1
    · congr 1
      refine List.map_congr_left fun a ha => ?_
      have := allAns_len k a ha
      show f (a ++ [true]) * wt c (k + 1) (a ++ [true]) = c k * (f (a ++ [true]) * wt c k a)
      show f (a ++ [true]) * (wt c k (a ++ [true]) * (if (a ++ [true]).getD k false then c k else 1 - c k)) = _
      rw [wt_append k a true (by omega), show (a ++ [true]).getD k false = true by simp [this], if_pos rfl]
      grind
    · congr 1
      refine List.map_congr_left fun a ha => ?_
      have := allAns_len k a ha
      show f (a ++ [false]) * wt c (k + 1) (a ++ [false]) = (1 - c k) * (f (a ++ [false]) * wt c k a)
      show f (a ++ [false]) * (wt c k (a ++ [false]) * (if (a ++ [false]).getD k false then c k else 1 - c k)) = _
      rw [wt_append k a false (by omega), show (a ++ [false]).getD k false = false by simp [this], if_neg (by decide)]
      grind
end

/-! ### trees -/
abbrev Node := Nat × Int × Int
structure GroupsOk (W : Web) (G : Groups) : Prop where
  has : ∀ t, t < W.n → groupOf G t < G.length
  ne : ∀ g ∈ G, g ≠ []
  lt : ∀ g ∈ G, ∀ t ∈ g, t < W.n
  alike : ∀ g ∈ G, ∀ t ∈ g, (W.tie t).c = (W.tie (g.headD 0)).c
  few : G.length ≤ W.n
def chG (W : Web) (G : Groups) (g : Nat) : Frc := (W.tie ((G.getD g []).headD 0)).c
def chQ (W : Web) (G : Groups) (g : Nat) : Rat := val (chG W G g)
theorem chG_of {W : Web} {G : Groups} (h : GroupsOk W G) {t : Nat} (ht : t < W.n) : (W.tie t).c = chG W G (groupOf G t) := by
  have hl := h.has t ht
  have hm : t ∈ G.getD (groupOf G t) [] := by
    have := List.findIdx_getElem (p := fun g : List Nat => g.contains t) (xs := G) (w := hl)
    rw [← List.getElem_eq_getD [] (h := hl)]
    exact List.contains_iff_mem.mp this
  have hg : G.getD (groupOf G t) [] ∈ G := by
    rw [← List.getElem_eq_getD [] (h := hl)]
    exact List.getElem_mem _
  exact h.alike _ hg t hm
/-- what a run from a node keeps, by the ties' answers; the run itself -/
def runF (nodes : List Node) (ans : Nat → Bool) : Nat → Int → List (Nat × Bool)
  | 0, _ => []
  | k + 1, i => if i < 0 then [] else match nodes[i.toNat]? with
    | none => []
    | some (t, y, n) => (t, ans t) :: runF nodes ans k (if ans t then y else n)
def keptOf (W : Web) (run : List (Nat × Bool)) : Nat := ((run.filter (·.2)).map fun p => (W.tie p.1).w).sum
def child (W : Web) (sts : List Stand) (i : Nat) (st : Stand) (t : Nat) (b : Bool) (j : Int) : Prop :=
  j = -1 ∨ ∃ k : Nat, j = (k : Int) ∧ i < k ∧ k < sts.length ∧ sts[k]? = some (behind W st t b)
structure TreeOk (W : Web) (nodes : List Node) (sts : List Stand) : Prop where
  len : nodes.length = sts.length
  first : ∀ s, sts[0]? = some s → s = ([], [])
  node : ∀ (i : Nat) (t : Nat) (y n : Int) (st : Stand), nodes[i]? = some (t, y, n) → sts[i]? = some st → t ∈ askable W st ∧ child W sts i st t true y ∧ child W sts i st t false n
def consB (k : Known) (a : List Bool) : Bool := k.all fun p => a.getD p.1 false == p.2
def ind (k : Known) (a : List Bool) : Rat := if consB k a then 1 else 0
theorem consB_iff {k : Known} {a : List Bool} : consB k a = true ↔ ∀ p ∈ k, a.getD p.1 false = p.2 := by
  unfold consB
  rw [List.all_eq_true]
  exact ⟨fun h p hp => by simpa using h p hp, fun h p hp => by simpa using h p hp⟩
theorem ind_nonneg (k : Known) (a : List Bool) : 0 ≤ ind k a := by
  unfold ind
  split <;> decide
theorem keptOf_cons (W : Web) (t : Nat) (b : Bool) (r : List (Nat × Bool)) : keptOf W ((t, b) :: r) = (if b then (W.tie t).w else 0) + keptOf W r := by
  unfold keptOf
  cases b with
  | true => simp
  | false => simp
theorem runF_step {nodes : List Node} {ans : Nat → Bool} {k i t : Nat} {y n : Int} (h : nodes[i]? = some (t, y, n)) : runF nodes ans (k + 1) (i : Int) = (t, ans t) :: runF nodes ans k (if ans t then y else n) := by
  show (if ((i : Nat) : Int) < 0 then _ else _) = _
  rw [if_neg (by omega), Int.toNat_natCast, h]
theorem runF_end {nodes : List Node} {ans : Nat → Bool} {k : Nat} : runF nodes ans k (-1) = [] := by
  cases k with
  | zero => rfl
  | succ k => rfl
def ansOf (G : Groups) (a : List Bool) (t : Nat) : Bool := a.getD (groupOf G t) false
section
variable {W : Web} {G : Groups} {nodes : List Node} {sts : List Stand}
theorem told_mem {k : Known} {t : Nat} {b : Bool} {r : List Bool} (h : told G k t = b :: r) : (groupOf G t, b) ∈ k := by
  have : b ∈ told G k t := by rw [h]; exact List.mem_cons_self
  unfold told at this
  obtain ⟨p, hp, e⟩ := List.mem_map.mp this
  obtain ⟨h1, h2⟩ := List.mem_filter.mp hp
  have h3 : p.1 = groupOf G t := by simpa using h2
  rw [← h3, ← e]
  exact h1
theorem told_nil {k : Known} {t : Nat} (h : told G k t = []) : ∀ p ∈ k, p.1 ≠ groupOf G t := by
  unfold told at h
  rw [List.map_eq_nil_iff, List.filter_eq_nil_iff] at h
  intro p hp e
  exact h p hp (by simpa using e)
theorem consB_behind {k : Known} {t : Nat} {b : Bool} {a : List Bool} : consB (knownBehind G k t b) a = true ↔ (∀ p ∈ k, p.1 ≠ groupOf G t → a.getD p.1 false = p.2) ∧ a.getD (groupOf G t) false = b := by
  rw [consB_iff]
  constructor
  · intro h
    refine ⟨fun p hp hn => h p (mem_sortK.mpr (List.mem_append_left _ (List.mem_filter.mpr ⟨hp, by simpa using hn⟩))), ?_⟩
    exact h (groupOf G t, b) (mem_sortK.mpr (List.mem_append_right _ (List.mem_singleton.mpr rfl)))
  · rintro ⟨h1, h2⟩ p hp
    rcases List.mem_append.mp (mem_sortK.mp hp) with q | q
    · obtain ⟨q1, q2⟩ := List.mem_filter.mp q
      exact h1 p q1 (by simpa using q2)
    · rw [List.mem_singleton.mp q]
      exact h2
theorem ind_known {s : Wide} (hs : WP W G s) {t : Nat} {b : Bool} {r : List Bool} (h : told G s.2.2 t = b :: r) (a : List Bool) : ind (knownBehind G s.2.2 t b) a = ind s.2.2 a := by
  have hm := told_mem h
  have hk := hs.kn
  have e : consB (knownBehind G s.2.2 t b) a = consB s.2.2 a := by
    rw [Bool.eq_iff_iff, consB_behind, consB_iff]
    constructor
    · rintro ⟨h1, h2⟩ p hp
      by_cases q : p.1 = groupOf G t
      · have : p = (groupOf G t, b) := by
          obtain ⟨i, hi, ei⟩ := List.getElem_of_mem hp
          obtain ⟨j, hj, ej⟩ := List.getElem_of_mem hm
          have hij : i = j := by
            refine (List.getElem?_inj (by simpa using hi) hk).mp ?_
            rw [List.getElem?_map, List.getElem?_map, List.getElem?_eq_getElem hi, List.getElem?_eq_getElem hj, ei, ej]
            exact congrArg some q
          subst hij
          rw [← ei, ej]
        rw [this]; exact h2
      · exact h1 p hp q
    · intro h1
      exact ⟨fun p hp _ => h1 p hp, h1 _ hm⟩
  unfold ind
  rw [e]
theorem ind_split {k : Known} {t : Nat} (h : told G k t = []) (b : Bool) (a : List Bool) : ind (knownBehind G k t b) a = if a.getD (groupOf G t) false = b then ind k a else 0 := by
  have hn := told_nil h
  unfold ind
  by_cases q : a.getD (groupOf G t) false = b
  · rw [if_pos q]
    have e : consB (knownBehind G k t b) a = consB k a := by
      rw [Bool.eq_iff_iff, consB_behind, consB_iff]
      exact ⟨fun ⟨h1, _⟩ p hp => h1 p hp (hn p hp), fun h1 => ⟨fun p hp _ => h1 p hp, q⟩⟩
    rw [e]
  · rw [if_neg q, if_neg]
    intro z
    exact q (consB_behind.mp z).2
theorem ind_indep {k : Known} {t : Nat} (h : told G k t = []) (a : List Bool) (x : Bool) : ind k (a.set (groupOf G t) x) = ind k a := by
  have hn := told_nil h
  have e : consB k (a.set (groupOf G t) x) = consB k a := by
    rw [Bool.eq_iff_iff, consB_iff, consB_iff]
    have : ∀ p ∈ k, (a.set (groupOf G t) x).getD p.1 false = a.getD p.1 false := fun p hp => by
      rw [List.getD_eq_getElem?_getD, List.getD_eq_getElem?_getD, List.getElem?_set_ne (fun e => hn p hp e.symm)]
    exact ⟨fun h p hp => by rw [← this p hp]; exact h p hp, fun h p hp => by rw [this p hp]; exact h p hp⟩
  unfold ind
  rw [e]
theorem val_w (W : Web) (t : Nat) : val ((((W.tie t).w : Nat) : Int), 1) = (((W.tie t).w : Nat) : Rat) := by
  rw [val_int]
  exact Rat.intCast_natCast _
/-- no tree is worth more -/
theorem tree_le (hW : WebOk W) (hG : GroupsOk W G) (T : TreeOk W nodes sts) : ∀ (k : Nat) (j : Int) (s : Wide), WP W G s → (j = -1 ∨ ∃ i : Nat, j = (i : Int) ∧ sts[i]? = some (Wide.st s) ∧ nodes.length ≤ i + k) →
    Av (chQ W G) G.length (fun a => ind s.2.2 a * (keptOf W (runF nodes (ansOf G a) k j) : Rat)) ≤ Av (chQ W G) G.length (ind s.2.2) * val (vW W G s)
  | k, j, s, hs, hj => by
    have c0 : ∀ g, 0 ≤ chQ W G g := fun g => (hW.ch _).1.val0
    have c1 : ∀ g, chQ W G g ≤ 1 := fun g => (hW.ch _).1.val1
    have hM : 0 ≤ Av (chQ W G) G.length (ind s.2.2) := Av_nonneg c0 c1 _ _ fun a => ind_nonneg _ a
    have hpos : ∀ t, 0 < (askW W G (vW W G) s t).2 := fun t => (askW_fine hW (fun u => vW_fine hW u) s t).pos
    have hge := bestOf_ge (f := askW W G (vW W G) s) (l := askable W (Wide.st s)) fun t _ => hpos t
    rw [← vW_eq hs] at hge
    have triv : Av (chQ W G) G.length (fun a => ind s.2.2 a * ((0 : Nat) : Rat)) ≤ Av (chQ W G) G.length (ind s.2.2) * val (vW W G s) := by
      have e : Av (chQ W G) G.length (fun a => ind s.2.2 a * ((0 : Nat) : Rat)) = 0 := by
        rw [← Av_zero (c := chQ W G) G.length]
        refine Av_congr _ _ _ fun a _ => ?_
        show ind s.2.2 a * (0 : Rat) = 0
        exact Rat.mul_zero _
      rw [e]
      exact Rat.mul_nonneg hM hge.1
    rcases hj with rfl | ⟨i, rfl, hst, hfuel⟩
    · simp only [runF_end]
      exact triv
    · have hi : i < sts.length := (List.getElem?_eq_some_iff.mp hst).1
      obtain ⟨k, rfl⟩ : ∃ k', k = k' + 1 := ⟨k - 1, by have := T.len; omega⟩
      have hi' : i < nodes.length := by have := T.len; omega
      obtain ⟨⟨t, y, n⟩, hnode⟩ : ∃ x, nodes[i]? = some x := ⟨nodes[i], List.getElem?_eq_getElem hi'⟩
      obtain ⟨ht, hy, hn⟩ := T.node i t y n _ hnode hst
      have htn := (mem_askable.mp ht).1
      have hg := hG.has t htn
      simp only [runF_step hnode, keptOf_cons]
      have ihF : ∀ b : Bool, Av (chQ W G) G.length (fun a => ind (knownBehind G s.2.2 t b) a * (keptOf W (runF nodes (ansOf G a) k (if b then y else n)) : Rat)) ≤
          Av (chQ W G) G.length (ind (knownBehind G s.2.2 t b)) * val (vW W G (wbehind W G s t b)) := fun b => by
        refine tree_le hW hG T k _ (wbehind W G s t b) (hs.behind ht b) ?_
        have hc : child W sts i (Wide.st s) t b (if b then y else n) := by
          cases b with
          | true => exact hy
          | false => exact hn
        rcases hc with e | ⟨u, e, h1, h2, h3⟩
        · exact .inl e
        · exact .inr ⟨u, e, h3, by omega⟩
      have hbest := hge.2 t ht
      cases htold : told G s.2.2 t with
      | cons b r =>
        have e1 : Av (chQ W G) G.length (fun a => ind s.2.2 a * (((if ansOf G a t then (W.tie t).w else 0) + keptOf W (runF nodes (ansOf G a) k (if ansOf G a t then y else n)) : Nat) : Rat)) =
            (((if b then (W.tie t).w else 0 : Nat)) : Rat) * Av (chQ W G) G.length (ind s.2.2) + Av (chQ W G) G.length (fun a => ind (knownBehind G s.2.2 t b) a * (keptOf W (runF nodes (ansOf G a) k (if b then y else n)) : Rat)) := by
          rw [← Av_mul, ← Av_add]
          refine Av_congr _ _ _ fun a _ => ?_
          rw [ind_known hs htold]
          by_cases q : consB s.2.2 a = true
          · have ha : ansOf G a t = b := consB_iff.mp q _ (told_mem htold)
            rw [ha, Rat.natCast_add]
            grind
          · have hz : ind s.2.2 a = 0 := if_neg q
            rw [hz]
            grind
        rw [e1]
        have ih := ihF b
        rw [Av_congr _ (ind (knownBehind G s.2.2 t b)) (ind s.2.2) fun a _ => ind_known hs htold a] at ih
        have hval : val (askW W G (vW W G) s t) = (((if b then (W.tie t).w else 0 : Nat)) : Rat) + val (vW W G (wbehind W G s t b)) := by
          unfold askW
          rw [htold]
          cases b with
          | true =>
            show val (plus (((W.tie t).w : Int), 1) (vW W G (wbehind W G s t true))) = _
            rw [val_plus Int.one_pos (vW_fine hW _).pos, val_w]
            rfl
          | false =>
            show val (vW W G (wbehind W G s t false)) = ((0 : Nat) : Rat) + _
            exact (Rat.zero_add _).symm
        have h2 := Rat.mul_le_mul_of_nonneg_left hbest hM
        rw [hval] at h2
        grind
      | nil =>
        have hsp := ind_split htold
        have hmass : ∀ b : Bool, Av (chQ W G) G.length (ind (knownBehind G s.2.2 t b)) = (if b then chQ W G (groupOf G t) else 1 - chQ W G (groupOf G t)) * Av (chQ W G) G.length (ind s.2.2) := fun b => by
          rw [Av_congr _ _ (fun a => if a.getD (groupOf G t) false = b then ind s.2.2 a else 0) fun a _ => hsp b a]
          exact Av_indep _ _ b _ hg fun a _ x => ind_indep htold a x
        have e1 : Av (chQ W G) G.length (fun a => ind s.2.2 a * (((if ansOf G a t then (W.tie t).w else 0) + keptOf W (runF nodes (ansOf G a) k (if ansOf G a t then y else n)) : Nat) : Rat)) =
            (((W.tie t).w : Nat) : Rat) * Av (chQ W G) G.length (ind (knownBehind G s.2.2 t true)) + (Av (chQ W G) G.length (fun a => ind (knownBehind G s.2.2 t true) a * (keptOf W (runF nodes (ansOf G a) k y) : Rat)) +
              Av (chQ W G) G.length (fun a => ind (knownBehind G s.2.2 t false) a * (keptOf W (runF nodes (ansOf G a) k n) : Rat))) := by
          rw [← Av_mul, ← Av_add, ← Av_add]
          refine Av_congr _ _ _ fun a _ => ?_
          rw [hsp true, hsp false]
          show ind s.2.2 a * (((if a.getD (groupOf G t) false then (W.tie t).w else 0) + keptOf W (runF nodes (ansOf G a) k (if a.getD (groupOf G t) false then y else n)) : Nat) : Rat) = _
          cases a.getD (groupOf G t) false with
          | true =>
            simp only [if_true, Bool.true_eq_false, if_false]
            rw [Rat.natCast_add]
            grind
          | false =>
            simp only [Bool.false_eq_true, if_true, if_false]
            rw [Nat.zero_add]
            grind
        rw [e1]
        have ihT := ihF true
        have ihN := ihF false
        rw [hmass] at ihT ihN
        simp only [if_true, Bool.false_eq_true, if_false] at ihT ihN
        rw [hmass true]
        simp only [if_true]
        have hval : val (askW W G (vW W G) s t) = chQ W G (groupOf G t) * ((((W.tie t).w : Nat) : Rat) + val (vW W G (wbehind W G s t true))) + (1 - chQ W G (groupOf G t)) * val (vW W G (wbehind W G s t false)) := by
          unfold askW
          rw [htold]
          show val (average (W.tie t).c (W.tie t).w (vW W G (wbehind W G s t true)) (vW W G (wbehind W G s t false))) = _
          rw [val_average (hW.ch t).1 (vW_fine hW _).pos (vW_fine hW _).pos, chG_of hG htn, Rat.intCast_natCast]
          rfl
        have h2 := Rat.mul_le_mul_of_nonneg_left hbest hM
        rw [hval] at h2
        grind
theorem tree_top (hW : WebOk W) (hG : GroupsOk W G) (T : TreeOk W nodes sts) {k : Nat} (hk : nodes.length ≤ k) :
    Av (chQ W G) G.length (fun a => (keptOf W (runF nodes (ansOf G a) k (if nodes = [] then -1 else 0)) : Rat)) ≤ val (vW W G ([], [], [])) := by
  have h := tree_le hW hG T k (if nodes = [] then -1 else 0) ([], [], []) (WP.first W G) ?_
  · have e : ∀ a, ind [] a = 1 := fun a => rfl
    simp only [e, Rat.one_mul] at h
    rw [Av_congr _ (ind (([], [], []) : Wide).2.2) (fun _ => 1) fun a _ => rfl, Av_one, Rat.one_mul] at h
    exact h
  · by_cases q : nodes = []
    · rw [if_pos q]; exact .inl rfl
    · rw [if_neg q]
      refine .inr ⟨0, rfl, ?_, by omega⟩
      have hl : 0 < sts.length := by
        rw [← T.len]
        exact List.length_pos_iff.mpr q
      have := T.first sts[0] (List.getElem?_eq_getElem hl)
      rw [List.getElem?_eq_getElem hl, this]
      rfl
end
end Km

/-! data, and states told by data: what a reading does to a state -/
namespace Dl
open PySem PySem.Spec L2

/-- data that never change -/
inductive D where
  | non | bl (b : Bool) | int (i : Int) | tup (xs : List D)
/-- what a slot holds, an item of a list -/
inductive Arg where
  | d (x : D) | a (p : Addr) | s (ns : List Int)
/-- what an object that changes holds -/
inductive Ct where
  | lst (xs : List Arg) | dct (kvs : List (NestedKey × D))
abbrev Ob := Addr × Ct × Bool

mutual
inductive Im (K : PySem.W.Frag) (H : Hp) : V → D → Prop
  | non : Im K H .non .non
  | bl (b : Bool) : Im K H (.bl b) (.bl b)
  | int (i : Int) : Im K H (.int i) (.int i)
  | tup {a : Addr} {xs : List V} {ds : List D} : SqT K H a xs → ImAll K H xs ds → Im K H (.ref a) (.tup ds)
inductive ImAll (K : PySem.W.Frag) (H : Hp) : List V → List D → Prop
  | nil : ImAll K H [] []
  | cons {v : V} {vs : List V} {d : D} {ds : List D} : Im K H v d → ImAll K H vs ds → ImAll K H (v :: vs) (d :: ds)
end

/-- what never changes stands -/
def T (H H' : Hp) : Prop := (∀ a xs, H a = some (.tup xs) → H' a = some (.tup xs)) ∧ ∀ a o u, H a = some (.frz o u) → H' a = some (.frz o u)
theorem T.refl (H : Hp) : T H H := ⟨fun _ _ h => h, fun _ _ _ h => h⟩
theorem T.trans {H H1 H2 : Hp} (a : T H H1) (b : T H1 H2) : T H H2 := ⟨fun p xs h => b.1 p xs (a.1 p xs h), fun p o u h => b.2 p o u (a.2 p o u h)⟩
def Ext (H H' : Hp) : Prop := ∀ a o, H a = some o → H' a = some o
theorem Ext.refl (H : Hp) : Ext H H := fun _ _ h => h
theorem Ext.trans {H H1 H2 : Hp} (a : Ext H H1) (b : Ext H1 H2) : Ext H H2 := fun p o h => b p o (a p o h)
theorem Ext.t {H H' : Hp} (e : Ext H H') : T H H' := ⟨fun a xs h => e a _ h, fun a o u h => e a _ h⟩
theorem Ext.new {H : Hp} {p : Addr} {o : HO} (h : H p = none) : Ext H (upd H p o) := fun a u e => by
  rw [upd_ne (ne_of_none e h)]
  exact e
def isTF : HO → Bool
  | .tup _ => true
  | .frz _ _ => true
  | _ => false
theorem T.mut {H : Hp} {p : Addr} {o u : HO} (h : H p = some o) (n : isTF o = false) : T H (upd H p u) := by
  refine ⟨fun a xs e => ?_, fun a ob v e => ?_⟩
  · rw [upd_ne (ne_of e h (fun q => by rw [← q] at n; cases n))]
    exact e
  · rw [upd_ne (ne_of e h (fun q => by rw [← q] at n; cases n))]
    exact e
theorem T.sqt {K : PySem.W.Frag} {H H' : Hp} {a : Addr} {xs : List V} (t : T H H') (h : SqT K H a xs) : SqT K H' a xs := by
  rcases h with (h | ⟨o, h⟩) | h
  · exact .inl (.inl (t.1 _ _ h))
  · exact .inl (.inr ⟨o, t.2 _ _ _ h⟩)
  · exact .inr h
mutual
theorem Im.mono {K : PySem.W.Frag} {H H' : Hp} (t : T H H') : ∀ (v : V) (d : D), Im K H v d → Im K H' v d
  | _, .non, h => by cases h; exact .non
  | _, .bl b, h => by cases h; exact .bl b
  | _, .int i, h => by cases h; exact .int i
  | _, .tup ds, h => by
    cases h with
    | tup h1 h2 => exact .tup (t.sqt h1) (ImAll.mono t _ ds h2)
theorem ImAll.mono {K : PySem.W.Frag} {H H' : Hp} (t : T H H') : ∀ (vs : List V) (ds : List D), ImAll K H vs ds → ImAll K H' vs ds
  | _, [], h => by cases h; exact .nil
  | _, d :: ds, h => by
    cases h with
    | cons h1 h2 => exact .cons (Im.mono t _ d h1) (ImAll.mono t _ ds h2)
end
theorem ImAll.length {K : PySem.W.Frag} {H : Hp} : ∀ {vs : List V} {ds : List D}, ImAll K H vs ds → vs.length = ds.length
  | _, [], h => by cases h; rfl
  | _, d :: ds, h => by
    cases h with
    | cons h1 h2 => simp [ImAll.length h2]
theorem ImAll.get {K : PySem.W.Frag} {H : Hp} : ∀ {vs : List V} {ds : List D} {i : Nat} {d : D}, ImAll K H vs ds → ds[i]? = some d → ∃ v, vs[i]? = some v ∧ Im K H v d
  | _, [], _, _, _, e => by simp at e
  | _, d :: ds, 0, x, h, e => by
    cases h with
    | cons h1 h2 =>
      have e' : d = x := by simpa using e
      subst e'
      exact ⟨_, rfl, h1⟩
  | _, d :: ds, i + 1, x, h, e => by
    cases h with
    | cons h1 h2 =>
      obtain ⟨v, h3, h4⟩ := ImAll.get (i := i) h2 (by simpa using e)
      exact ⟨v, by simpa using h3, h4⟩
theorem ImAll.append {K : PySem.W.Frag} {H : Hp} : ∀ {vs us : List V} {ds es : List D}, ImAll K H vs ds → ImAll K H us es → ImAll K H (vs ++ us) (ds ++ es)
  | _, _, [], _, h, q => by cases h; exact q
  | _, _, d :: ds, _, h, q => by
    cases h with
    | cons h1 h2 => exact .cons h1 (ImAll.append h2 q)
theorem ImAll.take {K : PySem.W.Frag} {H : Hp} : ∀ {vs : List V} {ds : List D} (n : Nat), ImAll K H vs ds → ImAll K H (vs.take n) (ds.take n)
  | _, _, 0, _ => .nil
  | _, [], n + 1, h => by cases h; exact .nil
  | _, d :: ds, n + 1, h => by
    cases h with
    | cons h1 h2 => exact .cons h1 (ImAll.take n h2)
theorem ImAll.drop {K : PySem.W.Frag} {H : Hp} : ∀ {vs : List V} {ds : List D} (n : Nat), ImAll K H vs ds → ImAll K H (vs.drop n) (ds.drop n)
  | _, _, 0, h => h
  | _, [], n + 1, h => by cases h; exact .nil
  | _, d :: ds, n + 1, h => by
    cases h with
    | cons h1 h2 => exact ImAll.drop n h2

/-! ### keys -/
mutual
def key : D → NestedKey
  | .non => .none
  | .bl b => .num (if b = true then 1 else 0)
  | .int i => .num i
  | .tup xs => .tup (keys xs)
def keys : List D → List NestedKey
  | [] => []
  | x :: xs => key x :: keys xs
end
/-- the entries of the dict at a, whose keys are nested tuples -/
def dnPhi (P : Program) (w : World) (a : Addr) (xs : List (NestedKey × Addr × Value)) : Heap → Prop := fun h =>
  ∃ o es ep, h.get? a = some o ∧ o.ExactDict ∧ o.data = .dict es ep ∧ es.toList = xs.map (entryOfKey (nestedKind P w)) ∧ (xs.map (·.1)).Nodup
def KN (K : PySem.W.Frag) (H : Hp) : List (NestedKey × D) → List (NestedKey × Addr × Value) → Prop :=
  Paired fun p q => p.1 = q.1 ∧ (∃ kd, Im K H (.ref q.2.1) kd ∧ key kd = p.1 ∧ (key kd).depth ≤ 8) ∧ ∃ v, RelV v q.2.2 ∧ Im K H v p.2
theorem KN.mono {K : PySem.W.Frag} {H H' : Hp} (t : T H H') {kvs : List (NestedKey × D)} {xs : List (NestedKey × Addr × Value)} (h : KN K H kvs xs) : KN K H' kvs xs :=
  Paired.mapP h fun _ _ ⟨a, ⟨kd, b, c, e⟩, v, r, i⟩ => ⟨a, ⟨kd, Im.mono t _ _ b, c, e⟩, v, r, Im.mono t _ _ i⟩

/-! ### what is known of a value, of an object -/
def AR (K : PySem.W.Frag) (H : Hp) (v : V) : Arg → Prop
  | .d x => Im K H v x
  | .a p => v = .ref p
  | .s ns => ∃ a, v = .ref a ∧ ((∃ o, H a = some (.frz o (.lst (ns.map V.int)))) ∨
      ∃ (o : Obj) (its : Array Value) (n : Nat), K.lookup a = some o ∧ o.cls = .type "list" ∧ o.dict = none ∧ o.data = .seq its n ∧ its.size ≤ sizeLine ∧ Vals (ns.map V.int) its.toList)
theorem AR.mono {K : PySem.W.Frag} {H H' : Hp} (t : T H H') {v : V} : ∀ {x : Arg}, AR K H v x → AR K H' v x
  | .d x, h => Im.mono t _ _ h
  | .a p, h => h
  | .s ns, ⟨a, e, h⟩ => ⟨a, e, h.imp (fun ⟨o, h⟩ => ⟨o, t.2 _ _ _ h⟩) fun h => h⟩
abbrev ARs (K : PySem.W.Frag) (H : Hp) : List V → List Arg → Prop := Paired (AR K H)
theorem ARs.mono {K : PySem.W.Frag} {H H' : Hp} (t : T H H') {vs : List V} {xs : List Arg} (h : ARs K H vs xs) : ARs K H' vs xs := Paired.mapP h fun _ _ q => q.mono t
theorem ARs.get {K : PySem.W.Frag} {H : Hp} : ∀ {vs : List V} {xs : List Arg} {i : Nat} {x : Arg}, ARs K H vs xs → xs[i]? = some x → ∃ v, vs[i]? = some v ∧ AR K H v x
  | _, _, _, _, .nil, e => by simp at e
  | _, _, 0, _, .cons r _, e => by simp at e; subst e; exact ⟨_, rfl, r⟩
  | _, _, i + 1, x, .cons _ t, e => by
    obtain ⟨u, h1, h2⟩ := ARs.get (i := i) (x := x) t (by simpa using e)
    exact ⟨u, by simpa using h1, h2⟩
theorem ARs.snoc {K : PySem.W.Frag} {H : Hp} {v : V} {x : Arg} : ∀ {vs : List V} {xs : List Arg}, ARs K H vs xs → AR K H v x → ARs K H (vs ++ [v]) (xs ++ [x])
  | _, _, .nil, h => .cons h .nil
  | _, _, .cons r t, h => .cons r (ARs.snoc t h)
theorem ARs.set {K : PySem.W.Frag} {H : Hp} {v : V} {x : Arg} (h : AR K H v x) : ∀ {vs : List V} {xs : List Arg} (i : Nat), ARs K H vs xs → ARs K H (vs.set i v) (xs.set i x)
  | _, _, _, .nil => .nil
  | _, _, 0, .cons _ t => .cons h t
  | _, _, i + 1, .cons r t => .cons r (ARs.set h i t)
theorem ARs.eraseIdx {K : PySem.W.Frag} {H : Hp} : ∀ {vs : List V} {xs : List Arg} (i : Nat), ARs K H vs xs → ARs K H (vs.eraseIdx i) (xs.eraseIdx i)
  | _, _, _, .nil => .nil
  | _, _, 0, .cons _ t => t
  | _, _, i + 1, .cons r t => .cons r (ARs.eraseIdx i t)
theorem ARs.append {K : PySem.W.Frag} {H : Hp} : ∀ {vs us : List V} {xs ys : List Arg}, ARs K H vs xs → ARs K H us ys → ARs K H (vs ++ us) (xs ++ ys)
  | _, _, _, _, .nil, q => q
  | _, _, _, _, .cons r t, q => .cons r (ARs.append t q)
theorem ARs.of_im {K : PySem.W.Frag} {H : Hp} : ∀ {vs : List V} {ds : List D}, ImAll K H vs ds → ARs K H vs (ds.map Arg.d)
  | _, [], h => by cases h; exact .nil
  | _, d :: ds, h => by
    cases h with
    | cons h1 h2 => exact .cons h1 (ARs.of_im h2)
theorem ARs.im {K : PySem.W.Frag} {H : Hp} : ∀ {vs : List V} {ds : List D}, ARs K H vs (ds.map Arg.d) → ImAll K H vs ds
  | _, [], h => by cases h; exact .nil
  | _, d :: ds, h => by
    cases h with
    | cons h1 h2 => exact .cons h1 (ARs.im h2)
theorem ARs.ints {K : PySem.W.Frag} {H : Hp} : ∀ {vs : List V} {ns : List Int}, ARs K H vs (ns.map fun n => Arg.d (.int n)) → vs = ns.map V.int
  | _, [], h => by cases h; rfl
  | _, n :: ns, h => by
    cases h with
    | cons h1 h2 =>
      have h1' : Im K H _ (.int n) := h1
      cases h1'
      rw [ARs.ints h2]; rfl
theorem ARs.bls {K : PySem.W.Frag} {H : Hp} : ∀ {vs : List V} {ns : List Bool}, ARs K H vs (ns.map fun n => Arg.d (.bl n)) → vs = ns.map V.bl
  | _, [], h => by cases h; rfl
  | _, n :: ns, h => by
    cases h with
    | cons h1 h2 =>
      have h1' : Im K H _ (.bl n) := h1
      cases h1'
      rw [ARs.bls h2]; rfl

structure Bs where
  P : Program
  w : World
  K : PySem.W.Frag
  H0 : Hp
  m0 : List Ob
def CtIs (B : Bs) (H : Hp) (p : Addr) : Ct → Prop
  | .lst xs => ∃ vs, H p = some (.lst vs) ∧ ARs B.K H vs xs
  | .dct kvs => kvs.length ≤ sizeLine ∧ (p == sysModules) = false ∧ ∃ xs, H p = some (.ext (dnPhi B.P B.w p xs)) ∧ KN B.K H kvs xs
theorem CtIs.mono {B : Bs} {H H' : Hp} {p : Addr} (t : T H H') (e : ∀ o, H p = some o → H' p = some o) : ∀ {c : Ct}, CtIs B H p c → CtIs B H' p c
  | .lst xs, ⟨vs, h1, h2⟩ => ⟨vs, e _ h1, h2.mono t⟩
  | .dct kvs, ⟨h0, h1, xs, h2, h3⟩ => ⟨h0, h1, xs, e _ h2, h3.mono t⟩
theorem CtIs.there {B : Bs} {H : Hp} {p : Addr} : ∀ {c : Ct}, CtIs B H p c → ∃ o, H p = some o ∧ isTF o = false
  | .lst xs, ⟨vs, h1, h2⟩ => ⟨_, h1, rfl⟩
  | .dct kvs, ⟨h0, h1, xs, h2, h3⟩ => ⟨_, h2, rfl⟩
theorem CtIs.lstx {B : Bs} {H : Hp} {p : Addr} {xs : List Arg} (h : CtIs B H p (.lst xs)) : ∃ vs, H p = some (.lst vs) ∧ ARs B.K H vs xs := h

/-! ### a state told by data -/
structure Sy where
  r : List (Option Arg)
  m : List Ob
structure Sat (B : Bs) (S : Sy) (σ : St) (H : Hp) : Prop where
  sl : ∀ (i : Nat) (x : Arg), S.r[i]? = some (some x) → ∃ v, σ[i]? = some (some v) ∧ AR B.K H v x
  len : S.r.length = σ.length
  ct : ∀ e ∈ S.m, CtIs B H e.1 e.2.1
  nd : (S.m.map (·.1)).Nodup
  own : ∀ e ∈ S.m, B.H0 e.1 = none ∨ ∃ e0 ∈ B.m0, e0.1 = e.1 ∧ (e.2.2 = true → e0.2.2 = true)
  fr : ∀ a o, B.H0 a = some o → (∀ e ∈ B.m0, e.2.2 = true → a ≠ e.1) → H a = some o
theorem Sat.ext {B : Bs} {S : Sy} {σ : St} {H H' : Hp} (h : Sat B S σ H) (e : Ext H H') : Sat B S σ H' where
  sl := fun i x q => let ⟨v, h1, h2⟩ := h.sl i x q; ⟨v, h1, h2.mono e.t⟩
  len := h.len
  ct := fun x q => (h.ct x q).mono e.t (e _)
  nd := h.nd
  own := h.own
  fr := fun a o q n => e _ _ (h.fr a o q n)
/-- a new object -/
theorem Sat.new {B : Bs} {S : Sy} {σ : St} {H H' : Hp} (h : Sat B S σ H) (e : Ext H H') {p : Addr} {c : Ct} {b : Bool} (hp : H p = none) (hc : CtIs B H' p c) : Sat B { S with m := S.m ++ [(p, c, b)] } σ H' where
  sl := (h.ext e).sl
  len := h.len
  ct := fun x q => by
    rcases List.mem_append.mp q with q | q
    · exact (h.ext e).ct x q
    · rw [List.mem_singleton.mp q]; exact hc
  nd := by
    show ((S.m ++ [(p, c, b)]).map (·.1)).Nodup
    rw [List.map_append, List.nodup_append]
    refine ⟨h.nd, by simp, fun a ha y hy => ?_⟩
    have : y = p := by simpa using hy
    subst this
    obtain ⟨x, hx, rfl⟩ := List.mem_map.mp ha
    obtain ⟨o, ho, _⟩ := (h.ct x hx).there
    exact ne_of_none ho hp
  own := fun x q => by
    rcases List.mem_append.mp q with q | q
    · exact h.own x q
    · rw [List.mem_singleton.mp q]
      by_cases z : ∃ e0 ∈ B.m0, e0.1 = p ∧ e0.2.2 = true
      · obtain ⟨e0, h1, h2, h3⟩ := z
        exact .inr ⟨e0, h1, h2, fun _ => h3⟩
      · refine .inl ?_
        cases q0 : B.H0 p with
        | none => rfl
        | some o =>
          have := h.fr p o q0 (fun e0 h1 h2 h3 => z ⟨e0, h1, h3.symm, h2⟩)
          rw [hp] at this; cases this
  fr := (h.ext e).fr

theorem map_set_same {l : List Ob} {k : Nat} {p : Addr} {c c' : Ct} {b b' : Bool} (h : l[k]? = some (p, c, b)) : (l.set k (p, c', b')).map (·.1) = l.map (·.1) := by
  rw [List.map_set]
  obtain ⟨hk, e⟩ := List.getElem?_eq_some_iff.mp h
  have : p = (l.map (·.1))[k]'(by simpa using hk) := by rw [List.getElem_map, e]
  conv => lhs; rw [this]
  exact List.set_getElem_self _
theorem nodup_fst {l : List Ob} (h : (l.map (·.1)).Nodup) {i j : Nat} {x y : Ob} (hi : l[i]? = some x) (hj : l[j]? = some y) (e : x.1 = y.1) : i = j := by
  have hl : i < (l.map (·.1)).length := by
    rw [List.length_map]; exact (List.getElem?_eq_some_iff.mp hi).1
  refine (List.getElem?_inj hl h).mp ?_
  rw [List.getElem?_map, List.getElem?_map, hi, hj]
  exact congrArg some e
/-- an object of ours is changed -/
theorem Sat.mut {B : Bs} {S : Sy} {σ : St} {H : Hp} (h : Sat B S σ H) {k : Nat} {p : Addr} {c c' : Ct} {u : HO} (hk : S.m[k]? = some (p, c, true)) (hc : CtIs B (upd H p u) p c') : Sat B { S with m := S.m.set k (p, c', true) } σ (upd H p u) ∧ T H (upd H p u) := by
  have hm : (p, c, true) ∈ S.m := List.mem_of_getElem? hk
  obtain ⟨o, ho, nt⟩ := (h.ct _ hm).there
  have t : T H (upd H p u) := T.mut ho nt
  refine ⟨⟨fun i x q => ?_, h.len, fun x q => ?_, ?_, fun x q => ?_, fun a ob q n => ?_⟩, t⟩
  · obtain ⟨v, h1, h2⟩ := h.sl i x q
    exact ⟨v, h1, h2.mono t⟩
  · obtain ⟨i, hi⟩ := List.mem_iff_getElem?.mp q
    rw [List.getElem?_set] at hi
    by_cases hik : k = i
    · rw [if_pos hik] at hi
      split at hi
      · cases hi; exact hc
      · cases hi
    · rw [if_neg hik] at hi
      refine (h.ct x (List.mem_of_getElem? hi)).mono t fun ob e => ?_
      rw [upd_ne (fun z => hik (nodup_fst h.nd hk hi z.symm))]
      exact e
  · show ((S.m.set k (p, c', true)).map (·.1)).Nodup
    rw [map_set_same hk]
    exact h.nd
  · rcases List.mem_or_eq_of_mem_set q with q | q
    · exact h.own x q
    · rw [q]
      have z := h.own (p, c, true) hm
      exact z
  · have ne : a ≠ p := by
      rcases h.own _ hm with z | ⟨e0, h1, h2, h3⟩
      · exact ne_of_none q z
      · exact fun w => n e0 h1 (h3 rfl) (w.trans h2.symm)
    rw [upd_ne ne]
    exact h.fr a ob q n
/-- less is known -/
structure Le (S' S : Sy) : Prop where
  r : ∀ (i : Nat) (x : Arg), S'.r[i]? = some (some x) → S.r[i]? = some (some x)
  len : S'.r.length = S.r.length
  m : S'.m.Sublist S.m
theorem Le.refl (S : Sy) : Le S S := ⟨fun _ _ h => h, rfl, List.Sublist.refl _⟩
theorem Le.trans {S1 S2 S3 : Sy} (a : Le S1 S2) (b : Le S2 S3) : Le S1 S3 := ⟨fun i x h => b.r i x (a.r i x h), a.len.trans b.len, a.m.trans b.m⟩
theorem Sat.le {B : Bs} {S S' : Sy} {σ : St} {H : Hp} (h : Sat B S σ H) (l : Le S' S) : Sat B S' σ H where
  sl := fun i x q => h.sl i x (l.r i x q)
  len := l.len.trans h.len
  ct := fun x q => h.ct x (l.m.subset q)
  nd := (l.m.map _).nodup h.nd
  own := fun x q => h.own x (l.m.subset q)
  fr := h.fr
theorem Sat.set {B : Bs} {S : Sy} {σ : St} {H : Hp} (h : Sat B S σ H) (i : Nat) {v : V} {x : Arg} (hv : AR B.K H v x) : Sat B { S with r := S.r.set i (some x) } (σ.set i (some v)) H where
  sl := fun j y q => by
    rw [List.getElem?_set] at q
    by_cases hij : i = j
    · rw [if_pos hij] at q
      split at q
      · rename_i hl
        have q' : x = y := by simpa using q
        subst q'
        refine ⟨v, ?_, hv⟩
        rw [List.getElem?_set, if_pos hij, if_pos (by rw [← h.len]; exact hl)]
      · cases q
    · rw [if_neg hij] at q
      obtain ⟨u, h1, h2⟩ := h.sl j y q
      exact ⟨u, by rw [List.getElem?_set, if_neg hij]; exact h1, h2⟩
  len := by simpa using h.len
  ct := h.ct
  nd := h.nd
  own := h.own
  fr := h.fr

/-! ### what a reading does to a state -/
/-- an expression: its value and the state behind -/
def WX (B : Bs) (te : TE) (S : Sy) (F : Arg → Sy → Prop) : Prop := ∀ σ H, Sat B S σ H → ∀ Q : VK, (∀ x S' v H', F x S' → Sat B S' σ H' → T H H' → AR B.K H' v x → Q v H') → te σ H Q
def WT (B : Bs) (tt : TT) (S : Sy) (F : Bool → Sy → Prop) : Prop := ∀ σ H, Sat B S σ H → ∀ Q : Bool → Hp → Prop, (∀ b S' H', F b S' → Sat B S' σ H' → T H H' → Q b H') → tt σ H Q
def WA (B : Bs) (ta : TA) (S : Sy) (F : List Arg → Sy → Prop) : Prop := ∀ σ H, Sat B S σ H → ∀ Q : List V → Hp → Prop, (∀ xs S' vs H', F xs S' → Sat B S' σ H' → T H H' → ARs B.K H' vs xs → Q vs H') → ta σ H Q
/-- an operation on two values -/
def WR (B : Bs) (r : R2) (x y : Arg) (S : Sy) (F : Arg → Sy → Prop) : Prop := ∀ σ H, Sat B S σ H → ∀ u v, AR B.K H u x → AR B.K H v y → ∀ Q : VK, (∀ z S' w H', F z S' → Sat B S' σ H' → T H H' → AR B.K H' w z → Q w H') → r u v H Q
/-- a call by values -/
def WC (B : Bs) (r : List V → Hp → VK → Prop) (xs : List Arg) (S : Sy) (F : Arg → Sy → Prop) : Prop := ∀ σ H, Sat B S σ H → ∀ us, ARs B.K H us xs → ∀ Q : VK, (∀ z S' w H', F z S' → Sat B S' σ H' → T H H' → AR B.K H' w z → Q w H') → r us H Q
structure En where
  nx : Sy → Prop
  rt : Arg → Sy → Prop
  bk : Sy → Prop := fun _ => False
  ct : Sy → Prop := fun _ => False
structure Fits (B : Bs) (H : Hp) (E : En) (D : Ends) : Prop where
  nx : ∀ S' σ' H', E.nx S' → Sat B S' σ' H' → T H H' → D.nx σ' H'
  rt : ∀ x S' σ' v H', E.rt x S' → Sat B S' σ' H' → T H H' → AR B.K H' v x → D.rt v H'
  bk : ∀ S' σ' H', E.bk S' → Sat B S' σ' H' → T H H' → D.bk σ' H'
  ct : ∀ S' σ' H', E.ct S' → Sat B S' σ' H' → T H H' → D.ct σ' H'
def WS (B : Bs) (t : TS) (S : Sy) (E : En) : Prop := ∀ σ H, Sat B S σ H → ∀ D, Fits B H E D → t D σ H
/-- a target -/
def WG (B : Bs) (g : TG) (x : Arg) (S : Sy) (F : Sy → Prop) : Prop := ∀ σ H, Sat B S σ H → ∀ v, AR B.K H v x → ∀ Q : St → Hp → Prop, (∀ S' σ' H', F S' → Sat B S' σ' H' → T H H' → Q σ' H') → g v σ H Q
section
variable {B : Bs} {S : Sy} {ta tb te : TE} {F : Arg → Sy → Prop}
theorem Fits.mono {H H' : Hp} {E : En} {D : Ends} (f : Fits B H E D) (t : T H H') : Fits B H' E D :=
  ⟨fun S' σ' H2 a b c => f.nx S' σ' H2 a b (t.trans c), fun x S' σ' v H2 a b c d => f.rt x S' σ' v H2 a b (t.trans c) d, fun S' σ' H2 a b c => f.bk S' σ' H2 a b (t.trans c), fun S' σ' H2 a b c => f.ct S' σ' H2 a b (t.trans c)⟩
/-! names, constants -/
theorem wx_var {i : Nat} {x : Arg} (h : S.r[i]? = some (some x)) (k : F x S) : WX B (tVar i) S F := fun σ H st Q q => by
  obtain ⟨v, h1, h2⟩ := st.sl i x h
  exact ⟨v, h1, q x S v H k st (T.refl H) h2⟩
theorem wx_int {i : Int} (k : F (.d (.int i)) S) : WX B (tC (.int i)) S F := fun σ H st Q q => q _ S _ H k st (T.refl H) (Im.int i)
theorem wx_bl {b : Bool} (k : F (.d (.bl b)) S) : WX B (tC (.bl b)) S F := fun σ H st Q q => q _ S _ H k st (T.refl H) (Im.bl b)
theorem wx_non (k : F (.d .non) S) : WX B (tC .non) S F := fun σ H st Q q => q _ S _ H k st (T.refl H) Im.non
/-- a datum of the module -/
theorem wx_glob {a : Addr} {d : D} (h : ∀ H, Im B.K H (.ref a) d) (k : F (.d d) S) : WX B (tC (.ref a)) S F := fun σ H st Q q => q _ S _ H k st (T.refl H) (h H)
theorem wx_weak {S' : Sy} (l : Le S' S) (h : WX B te S' F) : WX B te S F := fun σ H st Q q => h σ H (st.le l) Q q
theorem ws_weak {S' : Sy} {t : TS} {E : En} (l : Le S' S) (h : WS B t S' E) : WS B t S E := fun σ H st D f => h σ H (st.le l) D f
theorem wx_imp {F' : Arg → Sy → Prop} (h : WX B te S F') (k : ∀ x S', F' x S' → F x S') : WX B te S F := fun σ H st Q q => h σ H st Q fun x S' v H' f => q x S' v H' (k x S' f)
/-! operators -/
theorem wx_op {r : R2} (h : WX B ta S fun x S1 => WX B tb S1 fun y S2 => WR B r x y S2 F) : WX B (tOp r ta tb) S F := fun σ H st Q q =>
  h σ H st _ fun x S1 u H1 f1 st1 t1 a1 => f1 σ H1 st1 _ fun y S2 v H2 f2 st2 t2 a2 => f2 σ H2 st2 u v (a1.mono t2) a2 Q fun z S3 w H3 f3 st3 t3 a3 => q z S3 w H3 f3 st3 ((t1.trans t2).trans t3) a3
theorem AR.int {K : PySem.W.Frag} {H : Hp} {u : V} {i : Int} (h : AR K H u (.d (.int i))) : u = .int i := by
  have h' : Im K H u (.int i) := h
  cases h'; rfl
theorem AR.bl {K : PySem.W.Frag} {H : Hp} {u : V} {b : Bool} (h : AR K H u (.d (.bl b))) : u = .bl b := by
  have h' : Im K H u (.bl b) := h
  cases h'; rfl
theorem AR.ref {K : PySem.W.Frag} {H : Hp} {u : V} {p : Addr} (h : AR K H u (.a p)) : u = .ref p := h
theorem AR.tup {K : PySem.W.Frag} {H : Hp} {u : V} {ds : List D} (h : AR K H u (.d (.tup ds))) : ∃ a vs, u = .ref a ∧ SqT K H a vs ∧ ImAll K H vs ds := by
  have h' : Im K H u (.tup ds) := h
  cases h' with
  | tup h1 h2 => exact ⟨_, _, rfl, h1, h2⟩
theorem wr_i0 {g : Int → Int → Int} {i j : Int} (k : F (.d (.int (g i j))) S) : WR B (rI0 fun i j => .int (g i j)) (.d (.int i)) (.d (.int j)) S F := fun σ H st u v hu hv Q q =>
  ⟨i, j, hu.int, hv.int, q _ S _ H k st (T.refl H) (Im.int _)⟩
theorem wr_b0 {g : Int → Int → Bool} {i j : Int} (k : F (.d (.bl (g i j))) S) : WR B (rI0 fun i j => .bl (g i j)) (.d (.int i)) (.d (.int j)) S F := fun σ H st u v hu hv Q q =>
  ⟨i, j, hu.int, hv.int, q _ S _ H k st (T.refl H) (Im.bl _)⟩
theorem wr_i {C : Int → Int → Prop} {g : Int → Int → Int} {i j : Int} (c : C i j) (k : F (.d (.int (g i j))) S) : WR B (rI C fun i j => .int (g i j)) (.d (.int i)) (.d (.int j)) S F := fun σ H st u v hu hv Q q =>
  ⟨i, j, hu.int, hv.int, c, q _ S _ H k st (T.refl H) (Im.int _)⟩
theorem wr_eqI {i j : Int} (k : F (.d (.bl (decide (i = j)))) S) : WR B rEq (.d (.int i)) (.d (.int j)) S F := fun σ H st u v hu hv Q q => by
  obtain rfl := hu.int
  obtain rfl := hv.int
  refine ⟨rfl, ?_⟩
  have e : decide (V.int i = V.int j) = decide (i = j) := decide_eq_decide.mpr ⟨fun h => V.int.inj h, fun h => by rw [h]⟩
  rw [e]
  exact q _ S _ H k st (T.refl H) (Im.bl _)
theorem wr_neI {i j : Int} (k : F (.d (.bl (!decide (i = j)))) S) : WR B rNe (.d (.int i)) (.d (.int j)) S F := fun σ H st u v hu hv Q q => by
  obtain rfl := hu.int
  obtain rfl := hv.int
  refine ⟨rfl, ?_⟩
  have e : decide (V.int i = V.int j) = decide (i = j) := decide_eq_decide.mpr ⟨fun h => V.int.inj h, fun h => by rw [h]⟩
  rw [e]
  exact q _ S _ H k st (T.refl H) (Im.bl _)
theorem wx_neg {i : Int} (h : WX B ta S fun x S1 => x = .d (.int i) ∧ F (.d (.int (-i))) S1) : WX B (tUn (rU fun i => .int (-i)) ta) S F := fun σ H st Q q =>
  h σ H st _ fun x S1 u H1 f1 st1 t1 a1 => by
    obtain ⟨rfl, f1⟩ := f1
    exact ⟨i, a1.int, q _ S1 _ H1 f1 st1 t1 (Im.int _)⟩
/-- t[i] -/
theorem wr_ixT {ds : List D} {i : Int} {d : D} (h : atI ds i = some d) (k : F (.d d) S) : WR B (rIxT B.K) (.d (.tup ds)) (.d (.int i)) S F := fun σ H st u v hu hv Q q => by
  obtain ⟨a, vs, rfl, h1, h2⟩ := hu.tup
  obtain rfl := hv.int
  have hl := h2.length
  unfold atI at h
  obtain ⟨j, hj, hd⟩ := Option.bind_eq_some_iff.mp h
  obtain ⟨w, hw, iw⟩ := h2.get hd
  refine ⟨a, vs, i, w, rfl, rfl, h1, ?_, q _ S _ H k st (T.refl H) iw⟩
  unfold atI
  rw [hl, hj]
  exact hw
/-- l[i] -/
theorem wr_ixL {n : Nat} {p : Addr} {xs : List Arg} {b : Bool} {i : Int} {x : Arg} (hm : S.m[n]? = some (p, .lst xs, b)) (h : atI xs i = some x) (k : F x S) : WR B (rIxL B.K) (.a p) (.d (.int i)) S F := fun σ H st u v hu hv Q q => by
  obtain rfl := hu.ref
  obtain rfl := hv.int
  obtain ⟨vs, h1, h2⟩ := (st.ct _ (List.mem_of_getElem? hm)).lstx
  have hl : vs.length = xs.length := Paired.length h2
  unfold atI at h
  obtain ⟨j, hj, hd⟩ := Option.bind_eq_some_iff.mp h
  obtain ⟨w, hw, iw⟩ := h2.get hd
  refine ⟨p, vs, i, w, rfl, rfl, SqL.of h1, ?_, q _ S _ H k st (T.refl H) iw⟩
  unfold atI
  rw [hl, hj]
  exact hw
theorem wr_ixS {ns : List Int} {i : Int} {n : Int} (h : atI ns i = some n) (k : F (.d (.int n)) S) : WR B (rIxL B.K) (.s ns) (.d (.int i)) S F := fun σ H st u v hu hv Q q => by
  obtain ⟨a, rfl, h1⟩ := hu
  obtain rfl := hv.int
  have e : atI (ns.map V.int) i = some (V.int n) := by
    unfold atI at h ⊢
    rw [List.length_map]
    obtain ⟨j, hj, hd⟩ := Option.bind_eq_some_iff.mp h
    rw [hj]
    show (ns.map V.int)[j]? = _
    rw [List.getElem?_map, hd]
    rfl
  exact ⟨a, ns.map V.int, i, _, rfl, rfl, h1.elim (fun ⟨o, h⟩ => .inl (.inr ⟨o, h⟩)) .inr, e, q _ S _ H k st (T.refl H) (Im.int n)⟩
end
end Dl

/-! rules of the states told by data: displays, calls by values, tests, statements, targets -/
namespace Dl
open PySem PySem.Spec L2
section
variable {B : Bs} {S : Sy} {ta tb te : TE} {F : Arg → Sy → Prop}
/-! ### arguments, displays -/
theorem wa_nil {F : List Arg → Sy → Prop} (k : F [] S) : WA B tNil S F := fun σ H st Q q => q [] S [] H k st (T.refl H) .nil
theorem wa_cons {tr : TA} {F : List Arg → Sy → Prop} (h : WX B ta S fun x S1 => WA B tr S1 fun xs S2 => F (x :: xs) S2) : WA B (tCons ta tr) S F := fun σ H st Q q =>
  h σ H st _ fun x S1 u H1 f1 st1 t1 a1 => f1 σ H1 st1 _ fun xs S2 vs H2 f2 st2 t2 a2 => q (x :: xs) S2 (u :: vs) H2 f2 st2 (t1.trans t2) (.cons (a1.mono t2) a2)
theorem sz_ok {n : Nat} (h : n ≤ 1000000) : n ≤ sizeLine := Nat.le_trans h (by decide)
theorem sz_lt {n : Nat} (h : n < 1000000) : n < sizeLine := Nat.lt_of_lt_of_le h (by decide)
theorem wx_tup {t : TA} (h : WA B t S fun xs S1 => ∃ ds, xs = ds.map Arg.d ∧ ds.length ≤ 1000000 ∧ F (.d (.tup ds)) S1) : WX B (tTup t) S F := fun σ H st Q q =>
  h σ H st _ fun xs S1 vs H1 f1 st1 t1 a1 => by
    obtain ⟨ds, rfl, hl, f1⟩ := f1
    have hi := a1.im
    refine ⟨sz_ok (by rw [hi.length]; exact hl), fun p hp => ?_⟩
    have e : Ext H1 (upd H1 p (.tup vs)) := Ext.new hp
    exact q _ S1 _ _ f1 (st1.ext e) (t1.trans e.t) (Im.tup (SqT.of upd_same) (ImAll.mono e.t _ _ hi))
/-- a new list -/
theorem wx_lst {t : TA} (h : WA B t S fun xs S1 => xs.length ≤ 1000000 ∧ ∀ p, F (.a p) { S1 with m := S1.m ++ [(p, .lst xs, true)] }) : WX B (tLst t) S F := fun σ H st Q q =>
  h σ H st _ fun xs S1 vs H1 f1 st1 t1 a1 => by
    obtain ⟨hl, f1⟩ := f1
    have hlen : vs.length = xs.length := Paired.length a1
    refine ⟨sz_ok (by rw [hlen]; exact hl), fun p hp => ?_⟩
    have e : Ext H1 (upd H1 p (.lst vs)) := Ext.new hp
    exact q _ _ _ _ (f1 p) (st1.new e hp ⟨vs, upd_same, a1.mono e.t⟩) (t1.trans e.t) rfl
/-! ### built-ins by values -/
theorem wx_cb {r : List V → Hp → VK → Prop} {t : TA} (h : WA B t S fun xs S1 => WC B r xs S1 F) : WX B (tCB r t) S F := fun σ H st Q q =>
  h σ H st _ fun xs S1 vs H1 f1 st1 t1 a1 => f1 σ H1 st1 vs a1 Q fun z S2 w H2 f2 st2 t2 a2 => q z S2 w H2 f2 st2 (t1.trans t2) a2
theorem ARs.one {K : PySem.W.Frag} {H : Hp} {vs : List V} {x : Arg} (h : ARs K H vs [x]) : ∃ v, vs = [v] ∧ AR K H v x := by
  cases h with
  | cons a b => cases b; exact ⟨_, rfl, a⟩
theorem ARs.two {K : PySem.W.Frag} {H : Hp} {vs : List V} {x y : Arg} (h : ARs K H vs [x, y]) : ∃ u v, vs = [u, v] ∧ AR K H u x ∧ AR K H v y := by
  cases h with
  | cons a b =>
    cases b with
    | cons c d => cases d; exact ⟨_, _, rfl, a, c⟩
abbrev rLen (K : PySem.W.Frag) : List V → Hp → VK → Prop := fun xs H Q => ∃ p ys, xs = [.ref p] ∧ (SqL K H p ys ∨ SqT K H p ys) ∧ Q (.int ys.length) H
theorem wc_lenT {ds : List D} (k : F (.d (.int ds.length)) S) : WC B (rLen B.K) [.d (.tup ds)] S F := fun σ H st us hu Q q => by
  obtain ⟨v, rfl, hv⟩ := hu.one
  obtain ⟨a, vs, rfl, h1, h2⟩ := hv.tup
  refine ⟨a, vs, rfl, .inr h1, ?_⟩
  rw [h2.length]
  exact q _ S _ H k st (T.refl H) (Im.int _)
theorem wc_lenL {n : Nat} {p : Addr} {xs : List Arg} {b : Bool} (hm : S.m[n]? = some (p, .lst xs, b)) (k : F (.d (.int xs.length)) S) : WC B (rLen B.K) [.a p] S F := fun σ H st us hu Q q => by
  obtain ⟨v, rfl, hv⟩ := hu.one
  obtain rfl := hv.ref
  obtain ⟨vs, h1, h2⟩ := (st.ct _ (List.mem_of_getElem? hm)).lstx
  refine ⟨p, vs, rfl, .inl (SqL.of h1), ?_⟩
  rw [Paired.length h2]
  exact q _ S _ H k st (T.refl H) (Im.int _)
theorem wc_lenS {ns : List Int} (k : F (.d (.int ns.length)) S) : WC B (rLen B.K) [.s ns] S F := fun σ H st us hu Q q => by
  obtain ⟨v, rfl, a, rfl, h1⟩ := hu.one
  refine ⟨a, ns.map V.int, rfl, .inl (h1.elim (fun ⟨o, h⟩ => .inl (.inr ⟨o, h⟩)) .inr), ?_⟩
  rw [List.length_map]
  exact q _ S _ H k st (T.refl H) (Im.int _)
abbrev rAbs : List V → Hp → VK → Prop := fun xs H Q => ∃ i, xs = [.int i] ∧ Q (.int (if i < 0 then -i else i)) H
theorem wc_abs {i : Int} (k : F (.d (.int (if i < 0 then -i else i))) S) : WC B rAbs [.d (.int i)] S F := fun σ H st us hu Q q => by
  obtain ⟨v, rfl, hv⟩ := hu.one
  obtain rfl := hv.int
  exact ⟨i, rfl, q _ S _ H k st (T.refl H) (Im.int _)⟩
abbrev rMax2 : List V → Hp → VK → Prop := fun xs H Q => ∃ i j, xs = [.int i, .int j] ∧ Q (.int (if j > i then j else i)) H
abbrev rMin2 : List V → Hp → VK → Prop := fun xs H Q => ∃ i j, xs = [.int i, .int j] ∧ Q (.int (if j < i then j else i)) H
theorem wc_max2 {i j : Int} (k : F (.d (.int (if j > i then j else i))) S) : WC B rMax2 [.d (.int i), .d (.int j)] S F := fun σ H st us hu Q q => by
  obtain ⟨u, v, rfl, hu, hv⟩ := hu.two
  obtain rfl := hu.int
  obtain rfl := hv.int
  exact ⟨i, j, rfl, q _ S _ H k st (T.refl H) (Im.int _)⟩
theorem wc_min2 {i j : Int} (k : F (.d (.int (if j < i then j else i))) S) : WC B rMin2 [.d (.int i), .d (.int j)] S F := fun σ H st us hu Q q => by
  obtain ⟨u, v, rfl, hu, hv⟩ := hu.two
  obtain rfl := hu.int
  obtain rfl := hv.int
  exact ⟨i, j, rfl, q _ S _ H k st (T.refl H) (Im.int _)⟩
abbrev rInt1 : List V → Hp → VK → Prop := fun xs H Q => (∃ i, xs = [.int i] ∧ Q (.int i) H) ∨ ∃ k, xs = [.bl k] ∧ Q (.int (if k then 1 else 0)) H
theorem wc_intB {b : Bool} (k : F (.d (.int (if b then 1 else 0))) S) : WC B rInt1 [.d (.bl b)] S F := fun σ H st us hu Q q => by
  obtain ⟨v, rfl, hv⟩ := hu.one
  obtain rfl := hv.bl
  exact .inr ⟨b, rfl, q _ S _ H k st (T.refl H) (Im.int _)⟩
abbrev rTupOf (K : PySem.W.Frag) : List V → Hp → VK → Prop := fun xs H Q => ∃ p ys, xs = [.ref p] ∧ ((SqL K H p ys ∧ ∀ l, H l = none → Q (.ref l) (upd H l (.tup ys))) ∨ (SqT K H p ys ∧ Q (.ref p) H))
theorem wc_tupL {n : Nat} {p : Addr} {ds : List D} {b : Bool} (hm : S.m[n]? = some (p, .lst (ds.map Arg.d), b)) (k : F (.d (.tup ds)) S) : WC B (rTupOf B.K) [.a p] S F := fun σ H st us hu Q q => by
  obtain ⟨v, rfl, hv⟩ := hu.one
  obtain rfl := hv.ref
  obtain ⟨vs, h1, h2⟩ := (st.ct _ (List.mem_of_getElem? hm)).lstx
  refine ⟨p, vs, rfl, .inl ⟨SqL.of h1, fun l hl => ?_⟩⟩
  have e : Ext H (upd H l (.tup vs)) := Ext.new hl
  exact q _ S _ _ k (st.ext e) e.t (Im.tup (SqT.of upd_same) (ImAll.mono e.t _ _ h2.im))
/-- all([..]), sum([..]) -/
theorem wc_all {n : Nat} {p : Addr} {bs : List Bool} {b : Bool} (hm : S.m[n]? = some (p, .lst (bs.map fun x => .d (.bl x)), b)) (k : F (.d (.bl (bs.all id))) S) : WC B (rAll B.K) [.a p] S F := fun σ H st us hu Q q => by
  obtain ⟨v, rfl, hv⟩ := hu.one
  obtain rfl := hv.ref
  obtain ⟨vs, h1, h2⟩ := (st.ct _ (List.mem_of_getElem? hm)).lstx
  obtain rfl := h2.bls
  exact ⟨p, bs, rfl, SqL.of h1, q _ S _ H k st (T.refl H) (Im.bl _)⟩
theorem wc_sum {n : Nat} {p : Addr} {ns : List Int} {b : Bool} (hm : S.m[n]? = some (p, .lst (ns.map fun x => .d (.int x)), b)) (k : F (.d (.int ns.sum)) S) : WC B (rSum B.K) [.a p] S F := fun σ H st us hu Q q => by
  obtain ⟨v, rfl, hv⟩ := hu.one
  obtain rfl := hv.ref
  obtain ⟨vs, h1, h2⟩ := (st.ct _ (List.mem_of_getElem? hm)).lstx
  obtain rfl := h2.ints
  exact ⟨p, ns, rfl, SqL.of h1, q _ S _ H k st (T.refl H) (Im.int _)⟩
/-! ### joined tuples, lists; slices; in -/
theorem wr_catT {xs ys : List D} (hl : xs.length + ys.length ≤ 1000000) (k : F (.d (.tup (xs ++ ys))) S) : WR B (rCatA B.K) (.d (.tup xs)) (.d (.tup ys)) S F := fun σ H st u v hu hv Q q => by
  obtain ⟨a, us, rfl, h1, h2⟩ := hu.tup
  obtain ⟨b, vs, rfl, h3, h4⟩ := hv.tup
  refine ⟨a, b, us, vs, rfl, rfl, h1, h3, sz_ok (by rw [h2.length, h4.length]; exact hl), fun e => ?_, fun _ e => ?_, fun _ _ p hp => ?_⟩
  · subst e
    have : xs = [] := List.eq_nil_of_length_eq_zero (by rw [← h2.length]; rfl)
    subst this
    exact q _ S _ H k st (T.refl H) hv
  · subst e
    have : ys = [] := List.eq_nil_of_length_eq_zero (by rw [← h4.length]; rfl)
    subst this
    rw [List.append_nil] at k
    exact q _ S _ H k st (T.refl H) hu
  · have e : Ext H (upd H p (.tup (us ++ vs))) := Ext.new hp
    exact q _ S _ _ k (st.ext e) e.t (Im.tup (SqT.of upd_same) (ImAll.mono e.t _ _ (h2.append h4)))
theorem wr_catL {n j : Nat} {p r : Addr} {xs ys : List Arg} {b c : Bool} (hm : S.m[n]? = some (p, .lst xs, b)) (hm2 : S.m[j]? = some (r, .lst ys, c)) (hl : xs.length + ys.length ≤ 1000000) (k : ∀ l, F (.a l) { S with m := S.m ++ [(l, .lst (xs ++ ys), true)] }) :
    WR B rCat (.a p) (.a r) S F := fun σ H st u v hu hv Q q => by
  obtain rfl := hu.ref
  obtain rfl := hv.ref
  obtain ⟨us, h1, h2⟩ := (st.ct _ (List.mem_of_getElem? hm)).lstx
  obtain ⟨vs, h3, h4⟩ := (st.ct _ (List.mem_of_getElem? hm2)).lstx
  have l1 : us.length = xs.length := Paired.length h2
  have l2 : vs.length = ys.length := Paired.length h4
  refine ⟨p, r, us, vs, rfl, rfl, h1, h3, sz_ok (by rw [l1, l2]; exact hl), fun l hl => ?_⟩
  have e : Ext H (upd H l (.lst (us ++ vs))) := Ext.new hl
  exact q _ _ _ _ (k l) (st.new e hl ⟨_, upd_same, (h2.mono e.t).append (h4.mono e.t)⟩) e.t rfl
def cutD (ds : List D) (lo hi : Option Int) : List D := (ds.drop (HT.sIx ds.length 0 lo)).take (HT.sIx ds.length ds.length hi - HT.sIx ds.length 0 lo)
/-- t[a:b] by written ends -/
theorem wx_slT {tl th : TO} {lo hi : Option Int} (hlo : tl = tNoPart ∧ lo = none ∨ ∃ i, tl = tPart (tC (.int i)) ∧ lo = some i) (hhi : th = tNoPart ∧ hi = none ∨ ∃ i, th = tPart (tC (.int i)) ∧ hi = some i)
    (h : WX B te S fun x S1 => ∃ ds, x = .d (.tup ds) ∧ F (.d (.tup (cutD ds lo hi))) S1) : WX B (tSl (rSlA B.K) te tl th) S F := fun σ H st Q q =>
  h σ H st _ fun x S1 u H1 f1 st1 t1 a1 => by
    obtain ⟨ds, rfl, f1⟩ := f1
    obtain ⟨a, vs, rfl, h1, h2⟩ := a1.tup
    have hl := h2.length
    have core : rSlA B.K (.ref a) lo hi H1 Q := by
      refine ⟨a, vs, rfl, h1, fun e => ?_, fun _ p hp => ?_⟩
      · have e2 : cutD ds lo hi = ds := by
          unfold cutD
          rw [← hl, e.1, e.2, List.drop_zero, Nat.sub_zero, hl, List.take_length]
        rw [e2] at f1
        exact q _ S1 _ H1 f1 st1 t1 a1
      · have e : Ext H1 (upd H1 p (.tup (cutV vs lo hi))) := Ext.new hp
        refine q _ S1 _ _ f1 (st1.ext e) (t1.trans e.t) (Im.tup (SqT.of upd_same) (ImAll.mono e.t _ _ ?_))
        unfold cutV cutD
        rw [hl]
        exact (h2.drop _).take _
    rcases hlo with ⟨rfl, rfl⟩ | ⟨i, rfl, rfl⟩ <;> rcases hhi with ⟨rfl, rfl⟩ | ⟨j, rfl, rfl⟩
    · exact core
    · exact ⟨j, rfl, core⟩
    · exact ⟨i, rfl, core⟩
    · exact ⟨i, rfl, j, rfl, core⟩
theorem inV_ints (i : Int) (ns : List Int) : inV (.int i) (ns.map V.int) = ns.contains i := by
  unfold inV
  rw [List.any_map, List.contains_eq_any_beq]
  congr 1
  funext x
  show eqV (.int x) (.int i) = (i == x)
  unfold eqV
  rw [Bool.eq_iff_iff]
  simp
  exact ⟨fun h => h.symm, fun h => h.symm⟩
theorem wr_inT {neg : Bool} {i : Int} {ns : List Int} (k : F (.d (.bl (if neg then !ns.contains i else ns.contains i))) S) : WR B (rIn B.K neg) (.d (.int i)) (.d (.tup (ns.map D.int))) S F := fun σ H st u v hu hv Q q => by
  obtain rfl := hu.int
  obtain ⟨a, vs, rfl, h1, h2⟩ := hv.tup
  have e : vs = ns.map V.int := ARs.ints (K := B.K) (H := H) (by
    have := ARs.of_im h2
    rw [List.map_map] at this
    exact this)
  subst e
  refine ⟨a, _, rfl, .inr h1, rfl, ?_, ?_⟩
  · rw [List.all_map, List.all_eq_true]
    intro x _
    rfl
  · rw [inV_ints]
    exact q _ S _ H k st (T.refl H) (Im.bl _)
/-! ### tests -/
theorem wt_test {F : Bool → Sy → Prop} (h : WX B te S fun x S1 => ∃ b, x = .d (.bl b) ∧ F b S1) : WT B (tTest te) S F := fun σ H st Q q =>
  h σ H st _ fun x S1 u H1 f1 st1 t1 a1 => by
    obtain ⟨b, rfl, f1⟩ := f1
    exact ⟨b, a1.bl, q b S1 H1 f1 st1 t1⟩
theorem wt_b {F : Bool → Sy → Prop} (h : WX B te S fun x S1 => ∃ b, x = .d (.bl b) ∧ F b S1) : WT B (tB te) S F := fun σ H st Q q =>
  h σ H st _ fun x S1 u H1 f1 st1 t1 a1 => by
    obtain ⟨b, rfl, f1⟩ := f1
    exact ⟨b, a1.bl, q b S1 H1 f1 st1 t1⟩
theorem wt_not {tt : TT} {F : Bool → Sy → Prop} (h : WT B tt S fun b S1 => F (!b) S1) : WT B (tNot tt) S F := fun σ H st Q q =>
  h σ H st _ fun b S1 H1 f1 st1 t1 => q (!b) S1 H1 f1 st1 t1
theorem wt_and {t u : TT} {F : Bool → Sy → Prop} (h : WT B t S fun b S1 => (b = true → WT B u S1 F) ∧ (b = false → F false S1)) : WT B (tAnd t u) S F := fun σ H st Q q =>
  h σ H st _ fun b S1 H1 f1 st1 t1 => by
    cases b with
    | true => exact f1.1 rfl σ H1 st1 Q fun c S2 H2 f2 st2 t2 => q c S2 H2 f2 st2 (t1.trans t2)
    | false => exact q false S1 H1 (f1.2 rfl) st1 t1
theorem wt_or {t u : TT} {F : Bool → Sy → Prop} (h : WT B t S fun b S1 => (b = true → F true S1) ∧ (b = false → WT B u S1 F)) : WT B (tOr t u) S F := fun σ H st Q q =>
  h σ H st _ fun b S1 H1 f1 st1 t1 => by
    cases b with
    | true => exact q true S1 H1 (f1.1 rfl) st1 t1
    | false => exact f1.2 rfl σ H1 st1 Q fun c S2 H2 f2 st2 t2 => q c S2 H2 f2 st2 (t1.trans t2)
theorem wt_imp {t : TT} {F F' : Bool → Sy → Prop} (h : WT B t S F') (k : ∀ x S', F' x S' → F x S') : WT B t S F := fun σ H st Q q => h σ H st Q fun x S' H' f => q x S' H' (k x S' f)
theorem wt_weak {S' : Sy} {t : TT} {F : Bool → Sy → Prop} (l : Le S' S) (h : WT B t S' F) : WT B t S F := fun σ H st Q q => h σ H (st.le l) Q q
/-! ### targets -/
theorem wg_name {i : Nat} {x : Arg} {F : Sy → Prop} (k : F { S with r := S.r.set i (some x) }) : WG B (gName i) x S F := fun σ H st v hv Q q => q _ _ H k (st.set i hv) (T.refl H)
def setAll (r : List (Option Arg)) : List Nat → List D → List (Option Arg)
  | [], _ => r
  | _ :: _, [] => r
  | i :: is, d :: ds => setAll (r.set i (some (.d d))) is ds
def gNames : List Nat → TGs
  | [] => gNil
  | i :: is => gCons (gName i) (gNames is)
theorem wg_names {K : PySem.W.Frag} {F : Sy → Prop} (hK : K = B.K) : ∀ (is : List Nat) (ds : List D) (S : Sy), is.length = ds.length → F { S with r := setAll S.r is ds } → ∀ σ H, Sat B S σ H → ∀ vs, ImAll B.K H vs ds → ∀ Q : St → Hp → Prop,
    (∀ S' σ' H', F S' → Sat B S' σ' H' → T H H' → Q σ' H') → gNames is vs σ H Q
  | [], [], S, _, k, σ, H, st, vs, hv, Q, q => by
    cases hv
    exact ⟨rfl, q _ _ H k st (T.refl H)⟩
  | i :: is, d :: ds, S, hl, k, σ, H, st, vs, hv, Q, q => by
    cases hv with
    | cons h1 h2 =>
      refine ⟨_, _, rfl, ?_⟩
      exact wg_names hK is ds { S with r := S.r.set i (some (.d d)) } (by simpa using hl) k _ H (st.set i (x := .d d) h1) _ h2 Q q
  | [], _ :: _, _, hl, _, _, _, _, _, _, _, _ => by simp at hl
  | _ :: _, [], _, hl, _, _, _, _, _, _, _, _ => by simp at hl
theorem wg_tup {F : Sy → Prop} {is : List Nat} {ds : List D} (hl : is.length = ds.length) (k : F { S with r := setAll S.r is ds }) : WG B (gTup B.K is.length (gNames is)) (.d (.tup ds)) S F := fun σ H st v hv Q q => by
  obtain ⟨a, vs, rfl, h1, h2⟩ := AR.tup hv
  exact ⟨a, vs, rfl, h1, by rw [h2.length, hl], wg_names rfl is ds S hl k σ H st vs h2 Q q⟩
/-- l[i] = x -/
theorem wg_sub {to ti : TE} {y : Arg} {F : Sy → Prop} (h : WX B to S fun x S1 => WX B ti S1 fun i S2 => ∃ (p : Addr) (n : Nat) (xs : List Arg) (j : Nat) (k : Int), x = .a p ∧ i = .d (.int k) ∧ S2.m[n]? = some (p, .lst xs, true) ∧ ixN xs.length k = some j ∧ F { S2 with m := S2.m.set n (p, .lst (xs.set j y), true) }) :
    WG B (gSub to ti rSetL) y S F := fun σ H st v hv Q q =>
  h σ H st _ fun x S1 u H1 f1 st1 t1 a1 => f1 σ H1 st1 _ fun i S2 w H2 f2 st2 t2 a2 => by
    obtain ⟨p, n, xs, j, k, rfl, rfl, hm, hj, f2⟩ := f2
    obtain rfl : u = .ref p := a1
    obtain rfl := a2.int
    obtain ⟨vs, h1, h2⟩ := (st2.ct _ (List.mem_of_getElem? hm)).lstx
    have hl : vs.length = xs.length := Paired.length h2
    have t12 : T H H2 := t1.trans t2
    have tm : T H2 (upd H2 p (.lst (vs.set j v))) := T.mut h1 rfl
    obtain ⟨st3, t3⟩ := st2.mut hm (c' := .lst (xs.set j y)) (u := .lst (vs.set j v)) ⟨_, upd_same, (h2.mono tm).set (hv.mono (t12.trans tm)) j⟩
    exact ⟨p, vs, k, j, rfl, rfl, h1, by rw [hl]; exact hj, q _ _ _ f2 st3 (t12.trans t3)⟩
/-! ### methods of a list -/
theorem wx_app {to : TE} {t : TA} (h : WX B to S fun x S1 => ∃ (p : Addr) (n : Nat) (z : List Arg) (b : Bool), x = .a p ∧ S1.m[n]? = some (p, .lst z, b) ∧ WA B t S1 fun ys S2 => ∃ xs y, ys = [y] ∧ S2.m[n]? = some (p, .lst xs, true) ∧ xs.length < 1000000 ∧ F (.d .non) { S2 with m := S2.m.set n (p, .lst (xs ++ [y]), true) }) :
    WX B (tBM B.K "list" rAppend to t) S F := fun σ H st Q q =>
  h σ H st _ fun x S1 u H1 f1 st1 t1 a1 => by
    obtain ⟨p, n, z, b, rfl, hz, f1⟩ := f1
    obtain rfl : u = .ref p := a1
    obtain ⟨zs, hz1, _⟩ := (st1.ct _ (List.mem_of_getElem? hz)).lstx
    refine ⟨.inl ⟨rfl, zs, SqL.of hz1⟩, f1 σ H1 st1 _ fun ys S2 vs H2 f2 st2 t2 a2 => ?_⟩
    obtain ⟨xs, y, rfl, hm, hl, f2⟩ := f2
    obtain ⟨v, rfl, hv⟩ := a2.one
    obtain ⟨ws, h1, h2⟩ := (st2.ct _ (List.mem_of_getElem? hm)).lstx
    have hlen : ws.length = xs.length := Paired.length h2
    have t12 : T H H2 := t1.trans t2
    have tm : T H2 (upd H2 p (.lst (ws ++ [v]))) := T.mut h1 rfl
    obtain ⟨st3, t3⟩ := st2.mut hm (c' := .lst (xs ++ [y])) (u := .lst (ws ++ [v])) ⟨_, upd_same, (h2.mono tm).snoc (hv.mono tm)⟩
    exact ⟨p, ws, v, rfl, rfl, h1, sz_lt (by rw [hlen]; exact hl), q _ _ _ _ f2 st3 (t12.trans t3) .non⟩
/-- l.pop(0) -/
theorem wx_pop0 {to : TE} {t : TA} (h : WX B to S fun x S1 => ∃ (p : Addr) (n : Nat) (z : List Arg) (b : Bool), x = .a p ∧ S1.m[n]? = some (p, .lst z, b) ∧ WA B t S1 fun ys S2 => ∃ xs y, ys = [.d (.int 0)] ∧ S2.m[n]? = some (p, .lst (y :: xs), true) ∧ F y { S2 with m := S2.m.set n (p, .lst xs, true) }) :
    WX B (tBM B.K "list" rPopAt to t) S F := fun σ H st Q q =>
  h σ H st _ fun x S1 u H1 f1 st1 t1 a1 => by
    obtain ⟨p, n, z, b, rfl, hz, f1⟩ := f1
    obtain rfl : u = .ref p := a1
    obtain ⟨zs, hz1, _⟩ := (st1.ct _ (List.mem_of_getElem? hz)).lstx
    refine ⟨.inl ⟨rfl, zs, SqL.of hz1⟩, f1 σ H1 st1 _ fun ys S2 vs H2 f2 st2 t2 a2 => ?_⟩
    obtain ⟨xs, y, rfl, hm, f2⟩ := f2
    obtain ⟨v, rfl, hv⟩ := a2.one
    obtain rfl := hv.int
    obtain ⟨ws, h1, h2⟩ := (st2.ct _ (List.mem_of_getElem? hm)).lstx
    cases h2 with
    | @cons w y' ws xs' h3 h4 =>
      have t12 : T H H2 := t1.trans t2
      have tm : T H2 (upd H2 p (.lst ws)) := T.mut h1 rfl
      obtain ⟨st3, t3⟩ := st2.mut hm (c' := .lst xs) (u := .lst ws) ⟨_, upd_same, ARs.mono tm h4⟩
      exact ⟨p, w :: ws, 0, 0, w, rfl, rfl, h1, by decide, by decide, by simp [seqIndex?], rfl, q _ _ _ _ f2 st3 (t12.trans t3) (AR.mono tm h3)⟩
/-! ### statements -/
variable {E : En}
theorem ws_next (k : E.nx S) : WS B tNext S E := fun σ H st D f => f.nx S σ H k st (T.refl H)
theorem ws_seq {t u : TS} (h : WS B t S { E with nx := fun S1 => WS B u S1 E }) : WS B (tSeq t u) S E := fun σ H st D f =>
  h σ H st { D with nx := u D } ⟨fun S' σ' H' w st' t' => w σ' H' st' D (f.mono t'), f.rt, f.bk, f.ct⟩
theorem ws_asg {g : TG} (h : WX B te S fun x S1 => WG B g x S1 E.nx) : WS B (tAsg te g) S E := fun σ H st D f =>
  h σ H st _ fun x S1 v H1 f1 st1 t1 a1 => f1 σ H1 st1 v a1 _ fun S2 σ2 H2 f2 st2 t2 => f.nx S2 σ2 H2 f2 st2 (t1.trans t2)
theorem ws_drop (h : WX B te S fun _ S1 => E.nx S1) : WS B (tDrop te) S E := fun σ H st D f => h σ H st _ fun x S1 v H1 f1 st1 t1 a1 => f.nx S1 σ H1 f1 st1 t1
theorem ws_ret (h : WX B te S E.rt) : WS B (tRet te) S E := fun σ H st D f => h σ H st _ fun x S1 v H1 f1 st1 t1 a1 => f.rt x S1 σ v H1 f1 st1 t1 a1
theorem ws_if {c : TT} {t u : TS} (h : WT B c S fun b S1 => (b = true → WS B t S1 E) ∧ (b = false → WS B u S1 E)) : WS B (tIfS c t u) S E := fun σ H st D f =>
  h σ H st _ fun b S1 H1 f1 st1 t1 => by
    cases b with
    | true => exact f1.1 rfl σ H1 st1 D (f.mono t1)
    | false => exact f1.2 rfl σ H1 st1 D (f.mono t1)
theorem ws_par {i j : Nat} {t : TA} (h : WA B t S fun xs S1 => ∃ x y, xs = [x, y] ∧ E.nx { S1 with r := (S1.r.set i (some x)).set j (some y) }) : WS B (tPar i j t) S E := fun σ H st D f =>
  h σ H st _ fun xs S1 vs H1 f1 st1 t1 a1 => by
    obtain ⟨x, y, rfl, f1⟩ := f1
    obtain ⟨u, v, rfl, hu, hv⟩ := a1.two
    exact ⟨u, v, rfl, f.nx _ _ _ f1 ((st1.set i hu).set j hv) t1⟩
theorem ws_cut {t u : TS} (M : Sy → Prop) (h : WS B t S { E with nx := M }) (k : ∀ S1, M S1 → WS B u S1 E) : WS B (tSeq t u) S E := ws_seq (fun σ H st D f => h σ H st D ⟨fun S' σ' H' m => f.nx S' σ' H' (k S' m), f.rt, f.bk, f.ct⟩)
/-- while, by a word that falls -/
theorem ws_while {c : TT} {t : TS} (I : Nat → Sy → Prop) (m0 : Nat) (h0 : I m0 S)
    (hs : ∀ m S', I m S' → WT B c S' fun b S1 => (b = true → WS B t S1 { nx := fun S2 => ∃ m' S3, m' < m ∧ Le S3 S2 ∧ I m' S3, rt := E.rt, bk := E.nx, ct := fun S2 => ∃ m' S3, m' < m ∧ Le S3 S2 ∧ I m' S3 }) ∧ (b = false → E.nx S1)) : WS B (tWhile c t) S E := fun σ H st D f => by
  refine ⟨fun m σ' H' => ∃ S', I m S' ∧ Sat B S' σ' H' ∧ T H H', ⟨m0, S, h0, st, T.refl H⟩, ?_⟩
  rintro m σ' H' ⟨S', hI, st', t'⟩
  refine hs m S' hI σ' H' st' _ fun b S1 H1 f1 st1 t1 => ?_
  cases b with
  | true =>
    refine ⟨fun σ2 H2 => ∃ m', m' < m ∧ ∃ S3, I m' S3 ∧ Sat B S3 σ2 H2 ∧ T H H2, fun σ2 H2 ⟨m', hm, r⟩ => ⟨m', hm, r⟩, f1.1 rfl σ' H1 st1 _ ⟨?_, ?_, ?_, ?_⟩⟩
    · rintro S2 σ2 H2 ⟨m', S3, hm, hl, hI3⟩ st2 t2
      exact ⟨m', hm, S3, hI3, st2.le hl, (t'.trans t1).trans t2⟩
    · exact fun x S2 σ2 v H2 r st2 t2 a2 => f.rt x S2 σ2 v H2 r st2 ((t'.trans t1).trans t2) a2
    · exact fun S2 σ2 H2 r st2 t2 => f.nx S2 σ2 H2 r st2 ((t'.trans t1).trans t2)
    · rintro S2 σ2 H2 ⟨m', S3, hm, hl, hI3⟩ st2 t2
      exact ⟨m', hm, S3, hI3, st2.le hl, (t'.trans t1).trans t2⟩
  | false => exact f.nx S1 σ' H1 (f1.2 rfl) st1 (t'.trans t1)
end
end Dl

/-! for, comprehensions, over what is told by data -/
namespace Dl
open PySem PySem.Spec L2
def wipeR (r : List (Option Arg)) : List Nat → List (Option Arg)
  | [] => r
  | v :: vs => (wipeR r vs).set v none
theorem wipeR_length (r : List (Option Arg)) : ∀ vs, (wipeR r vs).length = r.length
  | [] => rfl
  | v :: vs => by
    show ((wipeR r vs).set v none).length = _
    rw [List.length_set, wipeR_length r vs]
theorem Sat.unset {B : Bs} {S : Sy} {σ : St} {H : Hp} (h : Sat B S σ H) (v : Nat) : Sat B { S with r := S.r.set v none } (σ.set v none) H where
  sl := fun j y q => by
    rw [List.getElem?_set] at q
    by_cases hij : v = j
    · rw [if_pos hij] at q
      split at q <;> simp at q
    · rw [if_neg hij] at q
      obtain ⟨u, h1, h2⟩ := h.sl j y q
      exact ⟨u, by rw [List.getElem?_set, if_neg hij]; exact h1, h2⟩
  len := by simpa using h.len
  ct := h.ct
  nd := h.nd
  own := h.own
  fr := h.fr
theorem Sat.wipe {B : Bs} {S : Sy} {σ : St} {H : Hp} (h : Sat B S σ H) : ∀ vs : List Nat, Sat B { S with r := wipeR S.r vs } (L2.wipe σ vs) H
  | [] => h
  | v :: vs => (Sat.wipe h vs).unset v
theorem Sat.swap {B : Bs} {S S' : Sy} {σ σ' : St} {H H' : Hp} (h : Sat B S σ H) (h' : Sat B S' σ' H') (t : T H H') : Sat B ⟨S.r, S'.m⟩ σ H' where
  sl := fun i x q => let ⟨v, h1, h2⟩ := h.sl i x q; ⟨v, h1, h2.mono t⟩
  len := h.len
  ct := h'.ct
  nd := h'.nd
  own := h'.own
  fr := h'.fr
theorem wipe_set {σ : St} {j : Nat} {x : Option V} : ∀ {vs : List Nat}, j ∈ vs → L2.wipe (σ.set j x) vs = L2.wipe σ vs
  | [], h => by simp at h
  | v :: vs, h => by
    show (L2.wipe (σ.set j x) vs).set v none = (L2.wipe σ vs).set v none
    by_cases hj : j ∈ vs
    · rw [wipe_set hj]
    · have hv : j = v := by
        rcases List.mem_cons.mp h with e | e
        · exact e
        · exact absurd e hj
      subst hv
      have : ∀ (vs : List Nat), j ∉ vs → L2.wipe (σ.set j x) vs = (L2.wipe σ vs).set j x := by
        intro vs
        induction vs with
        | nil => intro _; rfl
        | cons u us ih =>
          intro hu
          rw [List.mem_cons, not_or] at hu
          show (L2.wipe (σ.set j x) us).set u none = ((L2.wipe σ us).set u none).set j x
          rw [ih hu.2, List.set_comm _ _ hu.1]
      rw [this vs hj, List.set_set]
theorem wipe_wipe {σ : St} : ∀ vs : List Nat, L2.wipe (L2.wipe σ vs) vs = L2.wipe σ vs := by
  have key : ∀ (us vs : List Nat), (∀ u ∈ us, u ∈ vs) → ∀ σ : St, L2.wipe (L2.wipe σ us) vs = L2.wipe σ vs := by
    intro us
    induction us with
    | nil => intro vs _ σ; rfl
    | cons u us ih =>
      intro vs h σ
      show L2.wipe ((L2.wipe σ us).set u none) vs = _
      rw [wipe_set (h u List.mem_cons_self)]
      exact ih vs (fun x hx => h x (List.mem_cons_of_mem _ hx)) σ
  exact fun vs => key vs vs (fun _ h => h) σ

/-- n turns; while G holds of the state it goes on; up i: what the target does at turn i; ts: the target's places -/
structure DW (B : Bs) (H1 : Hp) (J : It) (n : Nat) (g : TG) (ts : List Nat) (G : Sy → Prop) (up : Nat → Sy → Sy) : Prop where
  goes : ∀ i σ S H, i < n → Sat B S σ H → G S → T H1 H → J.go i H
  stops : ∀ σ S H, Sat B S σ H → G S → T H1 H → J.stop n H
  turn : ∀ i σ S H x H' (Q : St → Hp → Prop), i < n → Sat B S σ H → G S → T H1 H → J.yld i H x H' →
    (∀ σ2 H2, Sat B (up i S) σ2 H2 → T H H2 → (∀ vs, (∀ j ∈ ts, j ∈ vs) → L2.wipe σ2 vs = L2.wipe σ vs) → Q σ2 H2) → g x σ H' Q
def WI (B : Bs) (wi : TI) (g : TG) (S : Sy) (F : Nat → List Nat → (Sy → Prop) → (Nat → Sy → Sy) → Sy → Prop) : Prop :=
  ∀ σ H, Sat B S σ H → ∀ R : It → Hp → Prop, (∀ J n ts G up S1 H1, F n ts G up S1 → Sat B S1 σ H1 → T H H1 → DW B H1 J n g ts G up → R J H1) → wi σ H R
section
variable {B : Bs} {S : Sy} {E : En} {F : Arg → Sy → Prop}
theorem ws_for {wi : TI} {g : TG} {t : TS} (h : WI B wi g S fun n _ G up S1 => ∃ I : Nat → Sy → Prop, I 0 S1 ∧ (∀ i S', I i S' → G S') ∧
      (∀ i S', i < n → I i S' → WS B t (up i S') { nx := fun S2 => ∃ S3, Le S3 S2 ∧ I (i + 1) S3, rt := E.rt, bk := E.nx, ct := fun S2 => ∃ S3, Le S3 S2 ∧ I (i + 1) S3 }) ∧ ∀ S', I n S' → E.nx S') :
    WS B (tFor wi g t) S E := fun σ H st D f => by
  refine h σ H st _ fun J n ts G up S1 H1 ⟨I, h0, hG, hs, hd⟩ st1 t1 W => ?_
  refine ⟨fun i m σ' H' => m = n - i ∧ i ≤ n ∧ ∃ S', I i S' ∧ Sat B S' σ' H' ∧ T H1 H', ⟨n, by simp, Nat.zero_le _, S1, h0, st1, T.refl H1⟩, ?_⟩
  rintro i m σ' H' ⟨rfl, hi, S', hI, st', t'⟩
  have hg := hG i S' hI
  by_cases hlt : i < n
  · refine .inr ⟨W.goes i σ' S' H' hlt st' hg t', fun σ2 H2 => ∃ S3, I (i + 1) S3 ∧ Sat B S3 σ2 H2 ∧ T H1 H2, fun σ2 H2 ⟨S3, a, b, c⟩ => ⟨n - (i + 1), by omega, rfl, hlt, S3, a, b, c⟩, fun x H2 y => ?_⟩
    refine W.turn i σ' S' H' x H2 _ hlt st' hg t' y fun σ3 H3 st3 t3 _ => ?_
    refine hs i S' hlt hI σ3 H3 st3 _ ⟨?_, ?_, ?_, ?_⟩
    · rintro S4 σ4 H4 ⟨S5, hl, hI5⟩ st4 t4
      exact ⟨S5, hI5, st4.le hl, (t'.trans t3).trans t4⟩
    · exact fun x S4 σ4 v H4 r st4 t4 a4 => f.rt x S4 σ4 v H4 r st4 (((t1.trans t').trans t3).trans t4) a4
    · exact fun S4 σ4 H4 r st4 t4 => f.nx S4 σ4 H4 r st4 (((t1.trans t').trans t3).trans t4)
    · rintro S4 σ4 H4 ⟨S5, hl, hI5⟩ st4 t4
      exact ⟨S5, hI5, st4.le hl, (t'.trans t3).trans t4⟩
  · have e : i = n := by omega
    subst e
    exact .inl ⟨W.stops σ' S' H' st' hg t', f.nx S' σ' H' (hd S' hI) st' (t1.trans t')⟩
/-- a comprehension: I by the new list's place, the turn, what it holds, the objects -/
theorem wx_lc {wi : TI} {g : TG} {tt : TT} {te : TE} {vs : List Nat} (h : WI B wi g S fun n ts G up S1 => (∀ j ∈ ts, j ∈ vs) ∧ ∃ I : Addr → Nat → List Arg → List Ob → Prop,
      (∀ D, I D 0 [] (S1.m ++ [(D, .lst [], true)])) ∧ (∀ D i acc m r, I D i acc m → G ⟨r, m⟩) ∧
      (∀ D i acc m, i < n → I D i acc m → WT B tt (up i ⟨wipeR S1.r vs, m⟩) fun b S2 =>
        (b = true → WX B te S2 fun y S3 => ∃ k m', acc.length < 1000000 ∧ S3.m[k]? = some (D, .lst acc, true) ∧ m'.Sublist (S3.m.set k (D, .lst (acc ++ [y]), true)) ∧ I D (i + 1) (acc ++ [y]) m') ∧
        (b = false → ∃ m', m'.Sublist S2.m ∧ I D (i + 1) acc m')) ∧
      ∀ D acc m, I D n acc m → F (.a D) ⟨S1.r, m⟩) : WX B (tLc wi g tt te vs) S F := fun σ H st Q q => by
  refine h σ H st _ fun J n ts G up S1 H1 ⟨hts, I, h0, hG, hs, hd⟩ st1 t1 W => ?_
  intro D hD
  have e1 : Ext H1 (upd H1 D (.lst [])) := Ext.new hD
  refine ⟨fun i m H' => m = n - i ∧ i ≤ n ∧ ∃ acc ms, I D i acc ms ∧ Sat B ⟨S1.r, ms⟩ σ H' ∧ T H1 H', ⟨n, by simp, Nat.zero_le _, [], _, h0 D, st1.new e1 hD ⟨[], upd_same, .nil⟩, e1.t⟩, ?_⟩
  rintro i m H' ⟨rfl, hi, acc, ms, hI, st', t'⟩
  by_cases hlt : i < n
  · have stw : Sat B ⟨wipeR S1.r vs, ms⟩ (L2.wipe σ vs) H' := st'.wipe vs
    refine .inr ⟨W.goes i _ _ H' hlt stw (hG D i acc ms _ hI) t', fun H2 => ∃ acc ms, I D (i + 1) acc ms ∧ Sat B ⟨S1.r, ms⟩ σ H2 ∧ T H1 H2, fun H2 ⟨a, b, c, d, e⟩ => ⟨n - (i + 1), by omega, rfl, hlt, a, b, c, d, e⟩, fun x H2 y => ?_⟩
    refine W.turn i _ _ H' x H2 _ hlt stw (hG D i acc ms _ hI) t' y fun σ3 H3 st3 t3 hw => ⟨(hw vs hts).trans (wipe_wipe vs), ?_⟩
    refine hs D i acc ms hlt hI σ3 H3 st3 _ fun b S4 H4 f4 st4 t4 => ?_
    cases b with
    | true =>
      refine f4.1 rfl σ3 H4 st4 _ fun y S5 v H5 f5 st5 t5 a5 => ?_
      obtain ⟨k, m', hl, hk, hsub, hI5⟩ := f5
      obtain ⟨ws, hws, hrs⟩ := (st5.ct _ (List.mem_of_getElem? hk)).lstx
      have hlen : ws.length = acc.length := Paired.length hrs
      have tm : T H5 (upd H5 D (.lst (ws ++ [v]))) := T.mut hws rfl
      obtain ⟨st6, t6⟩ := st5.mut hk (c' := .lst (acc ++ [y])) (u := .lst (ws ++ [v])) ⟨_, upd_same, (hrs.mono tm).snoc (a5.mono tm)⟩
      have tt : T H' (upd H5 D (.lst (ws ++ [v]))) := ((t3.trans t4).trans t5).trans t6
      exact ⟨ws, hws, sz_lt (by rw [hlen]; exact hl), _, m', hI5, ((st'.swap st6 tt).le ⟨fun _ _ h => h, rfl, hsub⟩), t'.trans tt⟩
    | false =>
      obtain ⟨m', hsub, hI5⟩ := f4.2 rfl
      have tt : T H' H4 := t3.trans t4
      exact ⟨acc, m', hI5, ((st'.swap st4 tt).le ⟨fun _ _ h => h, rfl, hsub⟩), t'.trans tt⟩
  · have e : i = n := by omega
    subst e
    have stw : Sat B ⟨wipeR S1.r vs, ms⟩ (L2.wipe σ vs) H' := st'.wipe vs
    exact .inl ⟨W.stops _ _ H' stw (hG D i acc ms _ hI) t', q _ _ _ _ (hd D acc ms hI) st' (t1.trans t') rfl⟩
/-- the items of a comprehension that changes nothing -/
def giv (n : Nat) (f : Nat → Bool) (v : Nat → Arg) : List Arg := ((List.range n).filter f).map v
theorem giv_yes {n : Nat} {f : Nat → Bool} {v : Nat → Arg} (h : f n = true) : giv (n + 1) f v = giv n f v ++ [v n] := by
  unfold giv
  rw [List.range_succ, List.filter_append, List.map_append, List.filter_cons, if_pos h] <;> rfl
theorem giv_no {n : Nat} {f : Nat → Bool} {v : Nat → Arg} (h : f n = false) : giv (n + 1) f v = giv n f v := by
  unfold giv
  rw [List.range_succ, List.filter_append, List.map_append, List.filter_cons, if_neg (by rw [h]; decide)]
  show _ ++ [] = _
  rw [List.append_nil]
theorem giv_len (n : Nat) (f : Nat → Bool) (v : Nat → Arg) : (giv n f v).length ≤ n := by
  unfold giv
  rw [List.length_map]
  have h := List.length_filter_le f (List.range n)
  rw [List.length_range] at h
  exact h
theorem giv_all {n : Nat} {v : Nat → Arg} : giv n (fun _ => true) v = (List.range n).map v := by
  unfold giv
  rw [List.filter_eq_self.mpr (fun _ _ => rfl)]
theorem pfx_set {l l' : List Ob} {x y : Ob} (h : l ++ [x] <+: l') : l'[l.length]? = some x ∧ (l ++ [y]).Sublist (l'.set l.length y) := by
  obtain ⟨t, rfl⟩ := h
  refine ⟨by simp, ?_⟩
  rw [List.append_assoc, List.set_append_right _ _ (Nat.le_refl _)]
  simp
theorem wx_lcP {wi : TI} {g : TG} {tt : TT} {te : TE} {vs : List Nat} (h : WI B wi g S fun n ts G up S1 => (∀ j ∈ ts, j ∈ vs) ∧ n ≤ 1000000 ∧ (∀ r x, G ⟨r, S1.m ++ [x]⟩) ∧ ∃ (f : Nat → Bool) (v : Nat → Arg),
      (∀ i x, i < n → WT B tt (up i ⟨wipeR S1.r vs, S1.m ++ [x]⟩) fun b S2 => b = f i ∧ (b = true → WX B te S2 fun y S3 => y = v i ∧ S1.m ++ [x] <+: S3.m) ∧ (b = false → S1.m ++ [x] <+: S2.m)) ∧
      ∀ D, F (.a D) { S1 with m := S1.m ++ [(D, .lst (giv n f v), true)] }) : WX B (tLc wi g tt te vs) S F := by
  refine wx_lc fun σ H st R k => h σ H st R fun J n ts G up S1 H1 ⟨hts, hn, hG, f, v, hs, hd⟩ st1 t1 W => k J n ts G up S1 H1 ⟨hts, ?_⟩ st1 t1 W
  refine ⟨fun D i acc m => i ≤ n ∧ acc = giv i f v ∧ m = S1.m ++ [(D, .lst acc, true)], fun D => ⟨Nat.zero_le _, rfl, rfl⟩, fun D i acc m r e => by rw [e.2.2]; exact hG _ _, fun D i acc m hi e => ?_, fun D acc m e => ?_⟩
  · obtain ⟨hi', rfl, rfl⟩ := e
    have hl : (giv i f v).length < 1000000 := by have := giv_len i f v; omega
    refine wt_imp (hs i _ hi) fun b S2 ⟨hb, h1, h2⟩ => ⟨fun e => wx_imp (h1 e) fun y S3 ⟨hy, hp⟩ => ?_, fun e => ?_⟩
    · have hf : f i = true := by rw [← hb]; exact e
      obtain ⟨p1, p2⟩ := pfx_set (y := (D, Ct.lst (giv i f v ++ [y]), true)) hp
      exact ⟨S1.m.length, _, hl, p1, p2, hi, by rw [giv_yes hf, hy], rfl⟩
    · have hf : f i = false := by rw [← hb]; exact e
      exact ⟨_, (h2 e).sublist, hi, (giv_no hf).symm, rfl⟩
  · obtain ⟨_, rfl, rfl⟩ := e
    exact hd D
/-! ### sources -/
variable {FI : Nat → List Nat → (Sy → Prop) → (Nat → Sy → Sy) → Sy → Prop}
theorem name_turn {σ : St} {H : Hp} {S : Sy} {j : Nat} {v : V} {x : Arg} {Q : St → Hp → Prop} (st : Sat B S σ H) (hv : AR B.K H v x)
    (q : ∀ σ2 H2, Sat B { S with r := S.r.set j (some x) } σ2 H2 → T H H2 → (∀ vs, (∀ i ∈ [j], i ∈ vs) → L2.wipe σ2 vs = L2.wipe σ vs) → Q σ2 H2) : gName j v σ H Q :=
  q _ _ (st.set j hv) (T.refl H) fun vs h => wipe_set (h j List.mem_cons_self)
theorem wi_list {tl : TE} {j : Nat} (h : WX B tl S fun x S1 => ∃ (p : Addr) (k : Nat) (xs : List Arg) (b : Bool), x = .a p ∧ S1.m[k]? = some (p, .lst xs, b) ∧
      FI xs.length [j] (fun S => S.m[k]? = some (p, .lst xs, b)) (fun i S => { S with r := S.r.set j xs[i]? }) S1) : WI B (iList B.K tl) (gName j) S FI := fun σ H st R k =>
  h σ H st _ fun x S1 v H1 f1 st1 t1 a1 => by
    obtain ⟨p, n, xs, b, rfl, hm, f1⟩ := f1
    obtain rfl : v = .ref p := a1
    obtain ⟨vs, h1, h2⟩ := (st1.ct _ (List.mem_of_getElem? hm)).lstx
    refine ⟨p, rfl, ⟨vs, SqL.of h1⟩, k _ _ _ _ _ S1 H1 f1 st1 t1 ⟨fun i σ S H hi st g t => ?_, fun σ S H st g t => ?_, fun i σ S H x H' Q hi st g t y q => ?_⟩⟩
    · obtain ⟨vs, h1, h2⟩ := (st.ct _ (List.mem_of_getElem? g)).lstx
      have hl : vs.length = xs.length := Paired.length h2
      exact ⟨vs, vs[i]'(by omega), SqL.of h1, List.getElem?_eq_getElem _⟩
    · obtain ⟨vs, h1, h2⟩ := (st.ct _ (List.mem_of_getElem? g)).lstx
      have hl : vs.length = xs.length := Paired.length h2
      exact ⟨vs, SqL.of h1, by omega⟩
    · obtain ⟨vs, h1, h2⟩ := (st.ct _ (List.mem_of_getElem? g)).lstx
      obtain ⟨rfl, y⟩ := y
      obtain ⟨u, hu, au⟩ := h2.get (List.getElem?_eq_getElem hi)
      have e := y vs (SqL.of h1)
      rw [hu] at e
      obtain rfl := Option.some.inj e
      refine name_turn st au fun σ2 H2 st2 => q σ2 H2 ?_
      show Sat B { S with r := S.r.set j xs[i]? } σ2 H2
      rw [List.getElem?_eq_getElem hi]
      exact st2
theorem wi_tup {tl : TE} {j : Nat} (h : WX B tl S fun x S1 => ∃ ds, x = .d (.tup ds) ∧
      FI ds.length [j] (fun _ => True) (fun i S => { S with r := S.r.set j (ds[i]?.map Arg.d) }) S1) : WI B (iTup B.K tl) (gName j) S FI := fun σ H st R k =>
  h σ H st _ fun x S1 v H1 f1 st1 t1 a1 => by
    obtain ⟨ds, rfl, f1⟩ := f1
    obtain ⟨a, vs, rfl, h1, h2⟩ := a1.tup
    have hl := h2.length
    refine ⟨a, rfl, ⟨vs, h1⟩, k _ _ _ _ _ S1 H1 f1 st1 t1 ⟨fun i σ S H hi st g t => ?_, fun σ S H st g t => ?_, fun i σ S H x H' Q hi st g t y q => ?_⟩⟩
    · exact ⟨vs, vs[i]'(by omega), t.sqt h1, List.getElem?_eq_getElem _⟩
    · exact ⟨vs, t.sqt h1, by omega⟩
    · obtain ⟨rfl, y⟩ := y
      obtain ⟨u, hu, au⟩ := h2.get (List.getElem?_eq_getElem hi)
      have e := y vs (t.sqt h1)
      rw [hu] at e
      obtain rfl := Option.some.inj e
      refine name_turn (x := .d ds[i]) st (Im.mono t _ _ au) fun σ2 H2 st2 => q σ2 H2 ?_
      show Sat B { S with r := S.r.set j (ds[i]?.map Arg.d) } σ2 H2
      rw [List.getElem?_eq_getElem hi]
      exact st2
theorem names_wipe : ∀ (is : List Nat) (vs : List Nat) (σ : St) (xs : List V), (∀ i ∈ is, i ∈ vs) → is.length = xs.length → ∀ (Q : St → Hp → Prop) (H : Hp), gNames is xs σ H Q → ∃ σ2, L2.wipe σ2 vs = L2.wipe σ vs ∧ Q σ2 H
  | [], vs, σ, xs, _, _, Q, H, h => ⟨σ, rfl, h.2⟩
  | i :: is, vs, σ, xs, hi, hl, Q, H, h => by
    obtain ⟨v, r, rfl, h⟩ := h
    obtain ⟨σ2, e, q⟩ := names_wipe is vs (σ.set i (some v)) r (fun x hx => hi x (List.mem_cons_of_mem _ hx)) (by simpa using hl) Q H h
    exact ⟨σ2, e.trans (wipe_set (hi i List.mem_cons_self)), q⟩
def setV (σ : St) : List Nat → List V → St
  | [], _ => σ
  | _ :: _, [] => σ
  | i :: is, v :: vs => setV (σ.set i (some v)) is vs
theorem gNames_of : ∀ (is : List Nat) (xs : List V) (σ : St) (H : Hp) (Q : St → Hp → Prop), is.length = xs.length → Q (setV σ is xs) H → gNames is xs σ H Q
  | [], [], σ, H, Q, _, q => ⟨rfl, q⟩
  | i :: is, x :: xs, σ, H, Q, hl, q => ⟨x, xs, rfl, gNames_of is xs (σ.set i (some x)) H Q (by simpa using hl) q⟩
  | [], _ :: _, _, _, _, hl, _ => by simp at hl
  | _ :: _, [], _, _, _, hl, _ => by simp at hl
theorem setV_wipe : ∀ (is : List Nat) (xs : List V) (σ : St) (vs : List Nat), (∀ i ∈ is, i ∈ vs) → L2.wipe (setV σ is xs) vs = L2.wipe σ vs
  | [], _, σ, vs, _ => rfl
  | _ :: _, [], σ, vs, _ => rfl
  | i :: is, x :: xs, σ, vs, h => by
    show L2.wipe (setV (σ.set i (some x)) is xs) vs = _
    rw [setV_wipe is xs _ vs fun j hj => h j (List.mem_cons_of_mem _ hj), wipe_set (h i List.mem_cons_self)]
def setArgs (r : List (Option Arg)) : List Nat → List Arg → List (Option Arg)
  | [], _ => r
  | _ :: _, [] => r
  | i :: is, x :: xs => setArgs (r.set i (some x)) is xs
theorem Sat.sets {B : Bs} {H : Hp} : ∀ (is : List Nat) (xs : List Arg) (vs : List V) (S : Sy) (σ : St), Sat B S σ H → ARs B.K H vs xs → Sat B { S with r := setArgs S.r is xs } (setV σ is vs) H
  | [], _, _, _, _, st, _ => by
    cases ‹List V› <;> exact st
  | _ :: _, [], _, _, _, st, h => by cases h; exact st
  | i :: is, x :: xs, _, S, σ, st, h => by
    cases h with
    | cons h1 h2 => exact Sat.sets is xs _ { S with r := S.r.set i (some x) } (σ.set i (some _)) (st.set i h1) h2
/-- a tuple's items, each a tuple that is taken apart -/
theorem wi_tupN {tl : TE} {is : List Nat} (h : WX B tl S fun x S1 => ∃ (ds : List D) (es : Nat → List D), x = .d (.tup ds) ∧ (∀ i, i < ds.length → ds[i]? = some (.tup (es i)) ∧ is.length = (es i).length) ∧
      FI ds.length is (fun _ => True) (fun i S => { S with r := setArgs S.r is ((es i).map Arg.d) }) S1) : WI B (iTup B.K tl) (gTup B.K is.length (gNames is)) S FI := fun σ H st R k =>
  h σ H st _ fun x S1 v H1 f1 st1 t1 a1 => by
    obtain ⟨ds, es, rfl, hes, f1⟩ := f1
    obtain ⟨a, vs, rfl, h1, h2⟩ := a1.tup
    have hl := h2.length
    refine ⟨a, rfl, ⟨vs, h1⟩, k _ _ _ _ _ S1 H1 f1 st1 t1 ⟨fun i σ S H hi st g t => ?_, fun σ S H st g t => ?_, fun i σ S H x H' Q hi st g t y q => ?_⟩⟩
    · exact ⟨vs, vs[i]'(by omega), t.sqt h1, List.getElem?_eq_getElem _⟩
    · exact ⟨vs, t.sqt h1, by omega⟩
    · obtain ⟨rfl, y⟩ := y
      obtain ⟨he1, he2⟩ := hes i hi
      obtain ⟨u, hu, au⟩ := h2.get he1
      have e := y vs (t.sqt h1)
      rw [hu] at e
      obtain rfl := Option.some.inj e
      have au' : Im B.K H' u (.tup (es i)) := Im.mono t _ _ au
      cases au' with
      | @tup b ws _ k1 k2 =>
        refine ⟨b, ws, rfl, k1, by rw [k2.length, he2], gNames_of is ws σ H' Q (by rw [k2.length, he2]) ?_⟩
        exact q _ H' (Sat.sets is _ _ S σ st (ARs.of_im k2)) (T.refl H') fun vs' hv => setV_wipe is ws σ vs' hv
/-- range(n) -/
theorem wi_range {ta : TA} {j : Nat} (h : WA B ta S fun xs S1 => ∃ n : Nat, xs = [.d (.int n)] ∧ n ≤ 1000000 ∧
      FI n [j] (fun _ => True) (fun i S => { S with r := S.r.set j (some (.d (.int (i : Nat)))) }) S1) : WI B (iRng1 ta) (gName j) S FI := fun σ H st R k =>
  h σ H st _ fun xs S1 vs H1 f1 st1 t1 a1 => by
    obtain ⟨n, rfl, hn, f1⟩ := f1
    obtain ⟨v, rfl, hv⟩ := a1.one
    obtain rfl := hv.int
    refine ⟨(n : Int), rfl, by omega, by omega, ?_⟩
    rw [Int.toNat_natCast]
    refine k _ _ _ _ _ S1 H1 f1 st1 t1 ⟨fun i σ S H hi st g t => hi, fun σ S H st g t => Nat.le_refl _, fun i σ S H x H' Q hi st g t y q => ?_⟩
    obtain ⟨rfl, rfl⟩ := y
    have e0 : (0 : Int) + (i : Int) = (i : Int) := Int.zero_add _
    rw [e0]
    exact name_turn (x := .d (.int (i : Nat))) st (Im.int _) q
/-- reversed(list) -/
theorem wi_rev {ta : TA} {j : Nat} (h : WA B ta S fun xs S1 => ∃ (p : Addr) (k : Nat) (ys : List Arg) (b : Bool), xs = [.a p] ∧ S1.m[k]? = some (p, .lst ys, b) ∧
      FI ys.length [j] (fun S => S.m[k]? = some (p, .lst ys, b)) (fun i S => { S with r := S.r.set j ys.reverse[i]? }) S1) : WI B (iRev B.K ta) (gName j) S FI := fun σ H st R k =>
  h σ H st _ fun xs S1 vs H1 f1 st1 t1 a1 => by
    obtain ⟨p, n, ys, b, rfl, hm, f1⟩ := f1
    obtain ⟨v, rfl, hv⟩ := a1.one
    obtain rfl := hv.ref
    obtain ⟨us, h1, h2⟩ := (st1.ct _ (List.mem_of_getElem? hm)).lstx
    have hl : us.length = ys.length := Paired.length h2
    refine ⟨p, us, rfl, SqL.of h1, ?_⟩
    rw [hl]
    refine k _ _ _ _ _ S1 H1 f1 st1 t1 ⟨fun i σ S H hi st g t => ?_, fun σ S H st g t => Nat.le_refl _, fun i σ S H x H' Q hi st g t y q => ?_⟩
    · obtain ⟨vs, h1, h2⟩ := (st.ct _ (List.mem_of_getElem? g)).lstx
      have hl : vs.length = ys.length := Paired.length h2
      exact ⟨hi, vs, vs[ys.length - 1 - i]'(by omega), SqL.of h1, List.getElem?_eq_getElem _⟩
    · obtain ⟨vs, h1, h2⟩ := (st.ct _ (List.mem_of_getElem? g)).lstx
      obtain ⟨rfl, y⟩ := y
      have hi2 : ys.length - 1 - i < ys.length := by omega
      obtain ⟨u, hu, au⟩ := h2.get (List.getElem?_eq_getElem hi2)
      have e := y vs (SqL.of h1)
      rw [hu] at e
      obtain rfl := Option.some.inj e
      refine name_turn st au fun σ2 H2 st2 => q σ2 H2 ?_
      show Sat B { S with r := S.r.set j ys.reverse[i]? } σ2 H2
      rw [List.getElem?_reverse hi, List.getElem?_eq_getElem hi2]
      exact st2
/-- two of a new pair -/
theorem pair_turn {σ : St} {H : Hp} {S : Sy} {a b : Nat} {p : Addr} {u v : V} {x y : Arg} {Q : St → Hp → Prop} (st : Sat B S σ H) (hp : H p = none) (hu : AR B.K H u x) (hv : AR B.K H v y)
    (q : ∀ σ2 H2, Sat B { S with r := (S.r.set a (some x)).set b (some y) } σ2 H2 → T H H2 → (∀ vs, (∀ i ∈ [a, b], i ∈ vs) → L2.wipe σ2 vs = L2.wipe σ vs) → Q σ2 H2) :
    gTup B.K [a, b].length (gNames [a, b]) (.ref p) σ (upd H p (.tup [u, v])) Q := by
  have e : Ext H (upd H p (.tup [u, v])) := Ext.new hp
  refine ⟨p, [u, v], rfl, SqT.of upd_same, rfl, gNames_of [a, b] [u, v] σ _ Q rfl ?_⟩
  exact q _ _ (((st.ext e).set a (hu.mono e.t)).set b (hv.mono e.t)) e.t fun vs h => setV_wipe [a, b] [u, v] σ vs h
/-- enumerate(list) -/
theorem wi_enumL {ta : TA} {a b : Nat} (h : WA B ta S fun xs S1 => ∃ (p : Addr) (k : Nat) (ys : List Arg) (w : Bool), xs = [.a p] ∧ S1.m[k]? = some (p, .lst ys, w) ∧
      FI ys.length [a, b] (fun S => S.m[k]? = some (p, .lst ys, w)) (fun i S => { S with r := (S.r.set a (some (.d (.int (i : Nat))))).set b ys[i]? }) S1) : WI B (iEnum B.K ta) (gTup B.K [a, b].length (gNames [a, b])) S FI := fun σ H st R k =>
  h σ H st _ fun xs S1 vs H1 f1 st1 t1 a1 => by
    obtain ⟨p, n, ys, w, rfl, hm, f1⟩ := f1
    obtain ⟨v, rfl, hv⟩ := a1.one
    obtain rfl := hv.ref
    obtain ⟨us, h1, h2⟩ := (st1.ct _ (List.mem_of_getElem? hm)).lstx
    refine ⟨p, us, rfl, SqL.of h1, k _ _ _ _ _ S1 H1 f1 st1 t1 ⟨fun i σ S H hi st g t => ?_, fun σ S H st g t => ?_, fun i σ S H x H' Q hi st g t y q => ?_⟩⟩
    · obtain ⟨vs, h1, h2⟩ := (st.ct _ (List.mem_of_getElem? g)).lstx
      have hl : vs.length = ys.length := Paired.length h2
      exact ⟨vs, vs[i]'(by omega), SqL.of h1, List.getElem?_eq_getElem _⟩
    · obtain ⟨vs, h1, h2⟩ := (st.ct _ (List.mem_of_getElem? g)).lstx
      have hl : vs.length = ys.length := Paired.length h2
      exact ⟨vs, SqL.of h1, by omega⟩
    · obtain ⟨vs, h1, h2⟩ := (st.ct _ (List.mem_of_getElem? g)).lstx
      obtain ⟨Tp, z, rfl, hT, rfl, y⟩ := y
      obtain ⟨u, hu, au⟩ := h2.get (List.getElem?_eq_getElem hi)
      have e := y vs (SqL.of h1)
      rw [hu] at e
      obtain rfl := Option.some.inj e
      refine pair_turn (x := .d (.int (i : Nat))) st hT (Im.int _) au fun σ2 H2 st2 => q σ2 H2 ?_
      show Sat B { S with r := (S.r.set a (some (.d (.int (i : Nat))))).set b ys[i]? } σ2 H2
      rw [List.getElem?_eq_getElem hi]
      exact st2
end
end Dl

/-! promises told by data -/
namespace Dl
open PySem PySem.Spec L2
/-- arguments, the objects handed in, the wish about the result and the objects behind -/
abbrev Prom := List Arg → List Ob → (Arg → List Ob → Prop) → Prop
def CtIsP (P : Program) (w : World) (K : PySem.W.Frag) (H : Hp) (p : Addr) (c : Ct) : Prop := CtIs ⟨P, w, K, H, []⟩ H p c
theorem ctIs_any {B B' : Bs} (h1 : B.P = B'.P) (h2 : B.w = B'.w) (h3 : B.K = B'.K) {H : Hp} {p : Addr} : ∀ {c : Ct}, CtIs B H p c → CtIs B' H p c
  | .lst xs, ⟨vs, a, b⟩ => ⟨vs, a, by rw [← h3]; exact b⟩
  | .dct kvs, ⟨a, b, xs, c, d⟩ => ⟨a, b, xs, by rw [← h1, ← h2]; exact c, by rw [← h3]; exact d⟩
structure Behind (P : Program) (w : World) (K : PySem.W.Frag) (H : Hp) (m m' : List Ob) (H' : Hp) : Prop where
  fr : ∀ a o, H a = some o → (∀ e ∈ m, e.2.2 = true → a ≠ e.1) → H' a = some o
  ct : ∀ e ∈ m', CtIsP P w K H' e.1 e.2.1
  nd : (m'.map (·.1)).Nodup
  new : ∀ e ∈ m', (∃ e0 ∈ m, e0.1 = e.1) ∨ H e.1 = none
def spD (P : Program) (w : World) (K : PySem.W.Frag) (A : Prom) : Sp := fun vs H Q _ => ∃ as m F, ARs K H vs as ∧ (∀ e ∈ m, CtIsP P w K H e.1 e.2.1) ∧ (m.map (·.1)).Nodup ∧ A as m F ∧
  ∀ x m' v H', F x m' → Behind P w K H m m' H' → AR K H' v x → Q v H'
def S0 (n : Nat) (as : List Arg) (m : List Ob) : Sy := ⟨as.map some ++ List.replicate (n - as.length) none, m⟩
section
variable {B : Bs} {S : Sy} {F : Arg → Sy → Prop}
theorem t_of_fr {B : Bs} {H H' : Hp} {m : List Ob} (hm : ∀ e ∈ m, CtIs B H e.1 e.2.1) (f : ∀ a o, H a = some o → (∀ e ∈ m, e.2.2 = true → a ≠ e.1) → H' a = some o) : T H H' := by
  have ne : ∀ a o, H a = some o → isTF o = true → ∀ e ∈ m, e.2.2 = true → a ≠ e.1 := fun a o h ho e he _ z => by
    obtain ⟨u, hu, nt⟩ := (hm e he).there
    rw [z, hu] at h
    rw [Option.some.inj h, ho] at nt
    cases nt
  exact ⟨fun a xs h => f a _ h (ne a _ h rfl), fun a o u h => f a _ h (ne a _ h rfl)⟩
/-- a call that is handed no object that changes: what comes back is new -/
theorem wx_call0 {A : Prom} {E : XK} {t : TA} (h : WA B t S fun as S1 => A as [] fun x m' => F x { S1 with m := S1.m ++ m' }) : WX B (tCall (spD B.P B.w B.K A) [] E t) S F := fun σ H st Q q =>
  h σ H st _ fun as S1 vs H1 f1 st1 t1 a1 => by
    refine ⟨as, [], _, by rw [List.append_nil]; exact a1, fun _ h => by simp at h, by simp, f1, fun x m' v H' f2 b2 a2 => ?_⟩
    have e : Ext H1 H' := fun a o h => b2.fr a o h fun _ h => by simp at h
    refine q x _ v H' f2 ⟨fun i y hy => ?_, st1.len, fun y hy => ?_, ?_, fun y hy => ?_, fun a o hq n => e _ _ (st1.fr a o hq n)⟩ (t1.trans e.t) a2
    · exact (st1.ext e).sl i y hy
    · rcases List.mem_append.mp hy with z | z
      · exact (st1.ext e).ct y z
      · exact ctIs_any rfl rfl rfl (b2.ct y z)
    · show ((S1.m ++ m').map (·.1)).Nodup
      rw [List.map_append, List.nodup_append]
      refine ⟨st1.nd, b2.nd, fun a ha b hb z => ?_⟩
      obtain ⟨u, hu, rfl⟩ := List.mem_map.mp ha
      obtain ⟨w, hw, rfl⟩ := List.mem_map.mp hb
      obtain ⟨o, ho, _⟩ := (st1.ct u hu).there
      rcases b2.new w hw with ⟨_, z', _⟩ | z'
      · simp at z'
      · rw [z, z'] at ho; cases ho
    · rcases List.mem_append.mp hy with z | z
      · exact st1.own y z
      · rcases b2.new y z with ⟨_, z', _⟩ | z'
        · simp at z'
        · by_cases zz : ∃ e0 ∈ B.m0, e0.1 = y.1 ∧ e0.2.2 = true
          · obtain ⟨e0, h1, h2, h3⟩ := zz
            exact .inr ⟨e0, h1, h2, fun _ => h3⟩
          · refine .inl ?_
            cases q0 : B.H0 y.1 with
            | none => rfl
            | some o =>
              have := st1.fr y.1 o q0 (fun e0 h1 h2 h3 => zz ⟨e0, h1, h3.symm, h2⟩)
              rw [z'] at this; cases this
/-- a call that reads an object -/
theorem wx_callR {A : Prom} {E : XK} {t : TA} (h : WA B t S fun as S1 => ∃ (k : Nat) (p : Addr) (c : Ct) (b : Bool), S1.m[k]? = some (p, c, b) ∧ A as [(p, c, false)] fun x _ => F x S1) : WX B (tCall (spD B.P B.w B.K A) [] E t) S F := fun σ H st Q q =>
  h σ H st _ fun as S1 vs H1 f1 st1 t1 a1 => by
    obtain ⟨k, p, c, b, hk, f1⟩ := f1
    refine ⟨as, [(p, c, false)], _, by rw [List.append_nil]; exact a1, fun e he => ?_, by simp, f1, fun x m' v H' f2 b2 a2 => ?_⟩
    · rw [List.mem_singleton.mp he]
      have z := st1.ct _ (List.mem_of_getElem? hk)
      exact ctIs_any rfl rfl rfl z
    · have e : Ext H1 H' := fun a o h => b2.fr a o h fun y hy z => by
        rw [List.mem_singleton.mp hy] at z; cases z
      exact q x _ v H' f2 (st1.ext e) (t1.trans e.t) a2
/-- a call that changes an object of ours -/
theorem wx_call1 {A : Prom} {E : XK} {t : TA} (h : WA B t S fun as S1 => ∃ (k : Nat) (p : Addr) (c : Ct), S1.m[k]? = some (p, c, true) ∧ A as [(p, c, true)] fun x m' => ∃ c', m' = [(p, c', true)] ∧ F x { S1 with m := S1.m.set k (p, c', true) }) : WX B (tCall (spD B.P B.w B.K A) [] E t) S F := fun σ H st Q q =>
  h σ H st _ fun as S1 vs H1 f1 st1 t1 a1 => by
    obtain ⟨k, p, c, hk, f1⟩ := f1
    have hmem : (p, c, true) ∈ S1.m := List.mem_of_getElem? hk
    have hct : ∀ e ∈ [((p, c, true) : Ob)], CtIs B H1 e.1 e.2.1 := fun e he => by
      rw [List.mem_singleton.mp he]
      exact st1.ct _ hmem
    refine ⟨as, [(p, c, true)], _, by rw [List.append_nil]; exact a1, fun e he => ctIs_any rfl rfl rfl (hct e he), by simp, f1, fun x m' v H' f2 b2 a2 => ?_⟩
    obtain ⟨c', rfl, f2⟩ := f2
    have tt : T H1 H' := t_of_fr hct b2.fr
    have fr' : ∀ a o, H1 a = some o → a ≠ p → H' a = some o := fun a o ha hn => b2.fr a o ha fun y hy _ => by
      rw [List.mem_singleton.mp hy]; exact hn
    refine q x _ v H' f2 ⟨fun i y hy => ?_, st1.len, fun y hy => ?_, ?_, fun y hy => ?_, fun a o hq n => ?_⟩ (t1.trans tt) a2
    · obtain ⟨u, h1, h2⟩ := st1.sl i y hy
      exact ⟨u, h1, h2.mono tt⟩
    · obtain ⟨i, hi⟩ := List.mem_iff_getElem?.mp hy
      rw [List.getElem?_set] at hi
      by_cases hik : k = i
      · rw [if_pos hik] at hi
        split at hi
        · cases hi
          exact ctIs_any rfl rfl rfl (b2.ct _ (List.mem_singleton.mpr rfl))
        · cases hi
      · rw [if_neg hik] at hi
        exact (st1.ct y (List.mem_of_getElem? hi)).mono tt fun ob e => fr' _ _ e (fun z => hik (nodup_fst st1.nd hk hi z.symm))
    · show ((S1.m.set k (p, c', true)).map (·.1)).Nodup
      rw [map_set_same hk]
      exact st1.nd
    · rcases List.mem_or_eq_of_mem_set hy with z | z
      · exact st1.own y z
      · rw [z]
        have z := st1.own (p, c, true) hmem
        exact z
    · have ne : a ≠ p := by
        rcases st1.own _ hmem with z | ⟨e0, h1, h2, h3⟩
        · exact ne_of_none hq z
        · exact fun w => n e0 h1 (h3 rfl) (w.trans h2.symm)
      exact fr' _ _ (st1.fr a o hq n) ne
end
section
variable {P : Program} {w : World} {K : PySem.W.Frag} {mg : Str → Option Value} {base : Heap}
/-- how a body ends -/
def outE (F : Arg → List Ob → Prop) : En where
  nx := fun S' => ∃ m', F (.d .non) m' ∧ m'.Sublist S'.m
  rt := fun x S' => ∃ m', F x m' ∧ m'.Sublist S'.m
theorem behind_of {H : Hp} {m m' : List Ob} {S' : Sy} {σ' : St} {H' : Hp} (st' : Sat ⟨P, w, K, H, m⟩ S' σ' H') (hs : m'.Sublist S'.m) : Behind P w K H m m' H' where
  fr := st'.fr
  ct := fun e he => ctIs_any rfl rfl rfl (st'.ct e (hs.subset he))
  nd := (hs.map _).nodup st'.nd
  new := fun e he => (st'.own e (hs.subset he)).elim .inr fun ⟨e0, h1, h2, _⟩ => .inl ⟨e0, h1, h2⟩
/-- THE RULE for a def -/
theorem fnD {x qual : Str} {st : Stmt} {f : Addr} {fd : FuncData} {N ps : List Str} {k : Nat} {A : Prom} (F : Fun K x qual st f fd) (S : FnScope N ps (defScope st)) (len : ∀ as m W, A as m W → as.length = ps.length)
    (hbody : ∀ (cdv : Value) (Ar : Around) (outer : List Env) (s : Shared) (H : Hp) (E : XK), Room k (Ar.deeper (PyProof.Rows.envOfC qual (defScope st) s.heap.objs.size f cdv)) →
      ∃ t, PSs (cxOf CX0 P w K mg base N qual (defScope st) f cdv Ar outer s H E).nox (defBody st) t ∧ ∀ as m W, A as m W → WS ⟨P, w, K, H, m⟩ t (S0 N.length as m) (outE W)) : FnOk P w K mg base CX0 (k + 1) f fd ps (spD P w K A) := by
  refine F.ok S (fun vs H Q E h => ?_) (fun cdv Ar outer s H vs Q E hr h => ?_)
  · obtain ⟨as, m, W, h1, h2, h3, h4, h5⟩ := h
    have e : vs.length = as.length := Paired.length h1
    rw [e]
    exact len as m W h4
  · obtain ⟨as, m, W, h1, h2, h3, h4, h5⟩ := h
    obtain ⟨t, ht, hw⟩ := hbody cdv Ar outer s H E hr
    have e : vs.length = as.length := Paired.length h1
    have hl : as.length ≤ N.length := by
      rw [len as m W h4, ← S.pre]
      exact List.length_take_le' ..
    refine ⟨t, ht, hw as m W h4 (L2.start N vs) H ⟨fun i y hy => ?_, ?_, fun y hy => ?_, h3, fun y hy => .inr ⟨y, hy, rfl, id⟩, fun a o ha _ => ha⟩ _ ⟨?_, ?_, ?_, ?_⟩⟩
    · have hi : i < as.length := by
        by_cases hi : i < as.length
        · exact hi
        · exfalso
          unfold S0 at hy
          rw [List.getElem?_append_right (by simpa using hi), List.getElem?_replicate] at hy
          split at hy <;> simp at hy
      have hy' : as[i]? = some y := by
        unfold S0 at hy
        rw [List.getElem?_append_left (by simpa using hi), List.getElem?_map] at hy
        cases q : as[i]? with
        | none => rw [q] at hy; cases hy
        | some z =>
          rw [q] at hy
          simp at hy
          rw [hy]
      obtain ⟨v, hv, av⟩ := ARs.get h1 hy'
      refine ⟨v, ?_, av⟩
      unfold L2.start
      rw [List.getElem?_append_left (by simpa [e] using hi), List.getElem?_map, hv]
      rfl
    · unfold S0 L2.start
      simp only [List.length_append, List.length_map, List.length_replicate, e]
    · exact ctIs_any rfl rfl rfl (h2 y hy)
    · rintro S' σ' H' ⟨m', hF, hs⟩ st' t'
      exact h5 _ m' _ H' hF (behind_of st' hs) (AR.mono (T.refl H') Im.non)
    · rintro x S' σ' v H' ⟨m', hF, hs⟩ st' t' a'
      exact h5 x m' v H' hF (behind_of st' hs) a'
    · intro _ _ _ h; exact h.elim
    · intro _ _ _ h; exact h.elim
end
end Dl

/-! enumerate(tuple), zip of two tuples -/
namespace Dl
open PySem PySem.Spec L2
set_option maxHeartbeats 1000000 in
theorem enum_new1 {v : Value} {o : Obj} {G : Heap → Prop} (B : Begins v o G) :
    Meets (Builtin.«enumerate.__new__» ⟨[.type "enumerate", v], []⟩) (fun _ R s => G s.heap ∧
      R (.ok (.ret (.ref (s.heap.push o).objs.size))) { s with heap := (s.heap.push o).push { cls := .type "enumerate", data := .fields #[.none, .bool false, .ref s.heap.objs.size, rawInt 0, .none, .none] } }) := by
  refine .of_wp fun prog w A R s hh => ?_
  obtain ⟨hp, g, d, tk, os⟩ := s
  obtain ⟨hG, hR⟩ := hh
  have sub0 := sub_enumerate
  have begin_ : ∀ {A' : Around} {E : Value → Shared → Prop} {Q : Value → Shared → Prop}, Q (.ref hp.objs.size) ⟨hp.push o, g, d, tk, os⟩ → wpAny (model prog w) A' (pyIter v) Q E ⟨hp, g, d, tk, os⟩ :=
    fun hq => B.iter prog w _ _ ⟨hp, g, d, tk, os⟩ _ hG hq
  wp_walk using begin_
  refine wpAny_stack_any fun st => wpAny_pure ?_
  split
  · rename_i c _ _ _ _ _
    cases (c == Value.type "enumerate") <;> (wp_walk using begin_) <;> exact ⟨_, rfl, hR⟩
  · wp_walk using begin_
    exact ⟨_, rfl, hR⟩
section
variable {prog : Program} {w : World} {A : Around} {E : Value → Shared → Prop} {s : Shared}
theorem enum_tuple {a : Addr} {items : Array Value} {Q : Value → Shared → Prop} (ht : s.heap.IsTuple a items)
    (h : ∀ h', IsEnum h' (s.heap.objs.size + 1) s.heap.objs.size 0 .none → h'.IsTupleIter s.heap.objs.size a 0 → (∀ b o, s.heap.get? b = some o → h'.get? b = some o) → Q (.ref (s.heap.objs.size + 1)) { s with heap := h' }) :
    wpAny (model prog w) A (call (.type "enumerate") [.ref a]) Q E s := by
  have B := begins_tuple a items
  generalize ho : ({ cls := .type "tuple_iterator", data := .fields #[.ref a, .int 0 0] } : Obj) = o at B
  refine callType_new F.called_enumerate (by decide) (F.typeCall_enumerate_1 _) (F.newCall_enumerate_1 _) (fun obj => F.args_object_init_2 obj _) F.entry_enumerate_new (enum_new1 B) ⟨ht, ?_⟩
  have z : (s.heap.push o).objs.size = s.heap.objs.size + 1 := Heap.size_push ..
  show _ ∧ _
  rw [z]
  have top := Heap.get?_push_size (s.heap.push o) (o := { cls := .type "enumerate", data := .fields #[.none, .bool false, .ref s.heap.objs.size, rawInt 0, .none, .none] }) rfl
  rw [z] at top
  refine ⟨⟨_, top, rfl⟩, h _ top ⟨o, Heap.get?_push_of_some _ (Heap.get?_push_size _ B.free), ?_, ?_⟩ fun b u q => Heap.get?_push_of_some _ (Heap.get?_push_of_some _ q)⟩
  · rw [← ho]
  · rw [← ho]
    rfl
end
def IteT (K : PySem.W.Frag) (a : Addr) : It where
  go := fun i H => ∃ (xs : List V) (x : V), SqT K H a xs ∧ xs[i]? = some x
  yld := fun i H v H' => ∃ (p : Addr) (x : V), v = .ref p ∧ H p = none ∧ H' = upd H p (.tup [.int (i : Nat), x]) ∧ ∀ xs, SqT K H a xs → xs[i]? = some x
  stop := fun i H => ∃ xs : List V, SqT K H a xs ∧ xs.length = i
theorem cls_ne {h : Heap} {a b : Addr} {o u : Obj} {c d : String} (ha : h.get? a = some o) (hb : h.get? b = some u) (hc : o.cls = .type c) (hd : u.cls = .type d) (n : c ≠ d) : a ≠ b := by
  rintro rfl
  rw [ha] at hb
  cases hb
  rw [hc] at hd
  exact n (by injection hd)
theorem turn_enumT {P : Program} {w : World} {K : PySem.W.Frag} {elts : List Expr} {kk : Nat} {tpos : Pos} (a e it : Addr) :
    Turn P w K (.Tuple elts kk tpos) (IteT K a) [e, it] e (fun i h => (∃ old, IsEnum h e it ((i : Nat) : Int) old) ∧ h.IsTupleIter it a i ∧ e ≠ it) := by
  have two : ∀ b, b ∈ [e, it] → b = e ∨ b = it := fun b hb => by simpa using hb
  refine ⟨by simp, fun i h st b hb => ?_, fun i h h' st k => ?_, ?_, ?_, fun A i s Q E st h => ?_⟩
  · obtain ⟨⟨old, he⟩, ⟨o, ho, hc, hd⟩, _⟩ := st
    rcases two b hb with rfl | rfl
    · exact ⟨_, he, fun v q => nomatch q⟩
    · exact ⟨o, ho, fun v q => by rw [hd] at q; cases q⟩
  · obtain ⟨⟨old, he⟩, hi, hne⟩ := st
    exact ⟨⟨old, k e (by simp) _ he⟩, hi.at fun o q => k it (by simp) o q, hne⟩
  · rintro X rfl rfl rfl hc i pins s σ H E I hf ⟨⟨old, he⟩, hit, hne⟩ ⟨xs, x, hq, hx⟩
    obtain ⟨its, rv, tp, hz⟩ := I.tuple hq
    obtain ⟨u, hu, ru⟩ := rv.get hx
    have tp' : s.heap.IsTuple a its.toArray := tp
    have elt : e < s.heap.objs.size := Heap.lt_size he
    have ilt : it < s.heap.objs.size := by
      obtain ⟨o, q, _⟩ := hit
      exact Heap.lt_size q
    have nit : a ≠ it := by
      obtain ⟨o1, q1, c1, _⟩ := id tp'
      obtain ⟨o2, q2, c2, _⟩ := id hit
      exact cls_ne q1 q2 c1 c2 (by decide)
    have nea : e ≠ a := by
      obtain ⟨o1, q1, c1, _⟩ := id tp'
      exact cls_ne he q1 rfl c1 (by decide)
    refine wpAny_pyNext_enum_itemD (Draws.tuple (A := X.A.in1) (I.ok.hd hc) it a nit its.toArray) he ⟨hit, tp'⟩ (i := i) ?_ hne (by simp [hne, nea]) fun y h1 tk hy ho st1 hT hsz hk => ?_
    · have := (List.getElem?_eq_some_iff.mp hu).1
      simpa using this
    · have hyu : y = u := by
        have hy' : its.toArray[i]? = some y := hy
        rw [show its.toArray[i]? = its[i]? by simp, hu] at hy'
        exact (Option.some.inj hy').symm
      subst hyu
      refine ⟨_, rfl, wpAny_letOwnedTupleGo_enum (s := { s with heap := h1, toks := tk + 1 }) ho fun h2 he2 sb => ?_⟩
      have hT2 := (sb.2 _ (Nat.ne_of_gt elt)).trans hT
      have nw : ObjOk X.prog X.w (upd H s.heap.objs.size (.tup [.int (i : Nat), x])) h2 s.heap.objs.size (.tup [.int (i : Nat), x]) :=
        ⟨by show 2 ≤ sizeLine; decide, [.int i tk, y], .cons ⟨_, rfl⟩ (.cons ru .nil), ⟨_, hT2, rfl, _, rfl⟩⟩
      have J : Inv X pins σ (upd H s.heap.objs.size (.tup [.int (i : Nat), x])) { s with heap := h2, toks := tk + 1 } :=
        I.turnedNew (ch := [e, it]) (fun b ob hb q => (sb.2 b (fun z => hb (by simp [z]))).trans (hk b ob (fun z => hb (by simp [z])) (fun z => hb (by simp [z])) q)) hf (Nat.le_refl _) nw
      refine ⟨.ref s.heap.objs.size, _, J, rfl, ⟨_, x, rfl, I.hok.fresh (Nat.le_refl _), rfl, fun ys hys => by rw [I.tuple_inj hys hq]; exact hx⟩, ⟨⟨y, ?_⟩, st1.1.at fun o q => (sb.2 it (Ne.symm hne)).trans q, hne⟩, fun b hb => ?_⟩
      · have e1 : ((i + 1 : Nat) : Int) = (i : Int) + 1 := by omega
        rw [e1]
        exact he2
      · have lt : b < s.heap.objs.size := by
          rcases two b hb with rfl | rfl
          · exact elt
          · exact ilt
        rw [upd_ne (Nat.ne_of_lt lt)]
        exact (hf b hb).1
  · rintro X rfl rfl rfl hc i pins s σ H E I hf ⟨⟨old, he⟩, hit, hne⟩ ⟨xs, hq, hx⟩
    obtain ⟨its, rv, tp, hz⟩ := I.tuple hq
    have tp' : s.heap.IsTuple a its.toArray := tp
    obtain ⟨f0, f1, f2, f3, f4, f5⟩ := hf it (by simp)
    have nit : a ≠ it := by
      obtain ⟨o1, q1, c1, _⟩ := id tp'
      obtain ⟨o2, q2, c2, _⟩ := id hit
      exact cls_ne q1 q2 c1 c2 (by decide)
    have hl : its.toArray.size = i := by rw [← hx, rv.length]; simp
    refine wpAny_pyNext_enum_endD (Draws.tuple (A := X.A.in1) (I.ok.hd hc) it a nit its.toArray) he ⟨by rw [hl]; exact hit, tp'⟩ fun h' eb => ⟨rfl, I.turned (t' := s.toks) (fun b o hb q => eb b o hb q) f0 f1 f3 f4 f5⟩
  · obtain ⟨⟨_, he⟩, _⟩ := st
    exact wpAny_pyIter_enum he h

def iEnumT (K : PySem.W.Frag) (ta : TA) : TI := fun σ H R => ta σ H fun vs H1 => ∃ a xs, vs = [.ref a] ∧ SqT K H1 a xs ∧ R (IteT K a) H1
theorem pi_enumT {X : Cx} {e : Expr} {ta : TA} {p pos tpos : Pos} {elts : List Expr} {kk : Nat} (hg : Gl X "enumerate") (hm : X.mg "enumerate" = none) (ha : PA X [e] ta) (hs : starEach [e] X.env = [(false, eval e X.env)] := by rfl) :
    PI X (.Tuple elts kk tpos) (.Call (.Name "enumerate" p) [e] [] pos) (iEnumT X.K ta) := by
  constructor
  intro pins s σ H R I h
  refine PyProof.Rows.Call_ (ld_blt I hg hm PyProof.Rows.boot_enumerate (PyProof.Rows.callWith_type1 (thn (ha.run pos pins s σ H _ I h) ?_) hs rfl))
  rintro us s1 ⟨vs, H1, I1, r1, a, xs, rfl, hq, q⟩
  cases r1 with
  | cons r rr =>
    cases rr
    obtain rfl := r
    obtain ⟨its, rv, tp, hz⟩ := I1.tuple hq
    refine enum_tuple (show s1.heap.IsTuple a its.toArray from tp) fun h' he hit hk => wpAny_pyIter_enum he ?_
    have lo : ∀ b, b ∈ [s1.heap.objs.size + 1, s1.heap.objs.size] → s1.heap.objs.size ≤ b := fun b hb => by
      have z : b = s1.heap.objs.size + 1 ∨ b = s1.heap.objs.size := by simpa using hb
      rcases z with z | z <;> rw [z] <;> first | exact Nat.le_succ _ | exact Nat.le_refl _
    exact ⟨s1.heap.objs.size + 1, [s1.heap.objs.size + 1, s1.heap.objs.size], _, _, H1, rfl, I1.kept (t' := s1.toks) hk, turn_enumT a _ s1.heap.objs.size, ⟨⟨.none, he⟩, hit, Nat.succ_ne_self _⟩, fun b hb => I1.fpOk (lo b hb) (I1.hok.fresh (lo b hb)), q⟩
section
variable {B : Bs} {S : Sy} {FI : Nat → List Nat → (Sy → Prop) → (Nat → Sy → Sy) → Sy → Prop}
theorem wi_enumT {ta : TA} {a b : Nat} (h : WA B ta S fun xs S1 => ∃ ds : List D, xs = [.d (.tup ds)] ∧
      FI ds.length [a, b] (fun _ => True) (fun i S => { S with r := (S.r.set a (some (.d (.int (i : Nat))))).set b (ds[i]?.map Arg.d) }) S1) : WI B (iEnumT B.K ta) (gTup B.K [a, b].length (gNames [a, b])) S FI := fun σ H st R k =>
  h σ H st _ fun xs S1 vs H1 f1 st1 t1 a1 => by
    obtain ⟨ds, rfl, f1⟩ := f1
    obtain ⟨v, rfl, hv⟩ := a1.one
    obtain ⟨p, us, rfl, h1, h2⟩ := hv.tup
    have hl := h2.length
    refine ⟨p, us, rfl, h1, k _ _ _ _ _ S1 H1 f1 st1 t1 ⟨fun i σ S H hi st g t => ?_, fun σ S H st g t => ?_, fun i σ S H x H' Q hi st g t y q => ?_⟩⟩
    · exact ⟨us, us[i]'(by omega), t.sqt h1, List.getElem?_eq_getElem _⟩
    · exact ⟨us, t.sqt h1, by omega⟩
    · obtain ⟨Tp, z, rfl, hT, rfl, y⟩ := y
      obtain ⟨u, hu, au⟩ := h2.get (List.getElem?_eq_getElem hi)
      have e := y us (t.sqt h1)
      rw [hu] at e
      obtain rfl := Option.some.inj e
      refine pair_turn (x := .d (.int (i : Nat))) (y := .d ds[i]) st hT (Im.int _) (Im.mono t _ _ au) fun σ2 H2 st2 => q σ2 H2 ?_
      show Sat B { S with r := (S.r.set a (some (.d (.int (i : Nat))))).set b (ds[i]?.map Arg.d) } σ2 H2
      rw [List.getElem?_eq_getElem hi]
      exact st2
theorem ARs.twoD {K : PySem.W.Frag} {H : Hp} {vs : List V} {x y : Arg} (h : ARs K H vs [x, y]) : ∃ u v, vs = [u, v] ∧ AR K H u x ∧ AR K H v y := h.two
/-- zip of two tuples of one length -/
theorem wi_zipT {ta : TA} {a b : Nat} (h : WA B ta S fun xs S1 => ∃ ds es : List D, xs = [.d (.tup ds), .d (.tup es)] ∧ ds.length = es.length ∧
      FI ds.length [a, b] (fun _ => True) (fun i S => { S with r := (S.r.set a (ds[i]?.map Arg.d)).set b (es[i]?.map Arg.d) }) S1) : WI B (RZ.iZipA B.K ta) (gTup B.K [a, b].length (gNames [a, b])) S FI := fun σ H st R k =>
  h σ H st _ fun xs S1 vs H1 f1 st1 t1 a1 => by
    obtain ⟨ds, es, rfl, hde, f1⟩ := f1
    obtain ⟨v, v2, rfl, hv, hv2⟩ := a1.two
    obtain ⟨p, us, rfl, h1, h2⟩ := hv.tup
    obtain ⟨p2, us2, rfl, h3, h4⟩ := hv2.tup
    have hl := h2.length
    have hl2 := h4.length
    refine ⟨p, p2, us, us2, rfl, .inr ⟨h1, h3, k _ _ _ _ _ S1 H1 f1 st1 t1 ⟨fun i σ S H hi st g t => ?_, fun σ S H st g t => ?_, fun i σ S H x H' Q hi st g t y q => ?_⟩⟩⟩
    · exact ⟨us, us2, us[i]'(by omega), us2[i]'(by omega), t.sqt h1, t.sqt h3, List.getElem?_eq_getElem _, List.getElem?_eq_getElem _⟩
    · exact ⟨us, us2, t.sqt h1, t.sqt h3, .inl (by omega)⟩
    · obtain ⟨Tp, z, z2, rfl, hT, rfl, y, y2⟩ := y
      have hi2 : i < es.length := by omega
      obtain ⟨u, hu, au⟩ := h2.get (List.getElem?_eq_getElem hi)
      obtain ⟨u2, hu2, au2⟩ := h4.get (List.getElem?_eq_getElem hi2)
      have e := y us (t.sqt h1)
      rw [hu] at e
      obtain rfl := Option.some.inj e
      have e := y2 us2 (t.sqt h3)
      rw [hu2] at e
      obtain rfl := Option.some.inj e
      refine pair_turn (x := .d ds[i]) (y := .d es[i]) st hT (Im.mono t _ _ au) (Im.mono t _ _ au2) fun σ2 H2 st2 => q σ2 H2 ?_
      show Sat B { S with r := (S.r.set a (ds[i]?.map Arg.d)).set b (es[i]?.map Arg.d) } σ2 H2
      rw [List.getElem?_eq_getElem hi, List.getElem?_eq_getElem hi2]
      exact st2
end
end Dl

/-! sorted, dicts with nested keys, == of data -/
namespace Dl
open PySem PySem.Spec L2
mutual
def py : D → PyData
  | .non => .none
  | .bl b => .bool b
  | .int i => .int i
  | .tup xs => .tuple (pys xs)
def pys : List D → List PyData
  | [] => []
  | x :: xs => py x :: pys xs
end
theorem pys_map : ∀ xs : List D, pys xs = xs.map py
  | [] => rfl
  | x :: xs => by
    show py x :: pys xs = py x :: xs.map py
    rw [pys_map xs]
section
variable {X : Cx} {pins : List (Addr × Obj)} {σ : St} {H : Hp} {s : Shared}
mutual
theorem Im.reads (I : Inv X pins σ H s) : ∀ (d : D) (v : V) (u : Value), Im X.K H v d → RelV v u → Reads s.heap u (py d) []
  | .non, _, _, h, r => by cases h; cases r; exact .none
  | .bl b, _, _, h, r => by cases h; cases r; exact .bool b
  | .int i, _, _, h, r => by
    cases h
    obtain ⟨t, rfl⟩ := r
    exact .int i t
  | .tup ds, _, _, h, r => by
    cases h with
    | tup h1 h2 =>
      obtain rfl := r
      obtain ⟨its, rv, ⟨o, ho, hc, n, hd⟩, _⟩ := I.tuple h1
      exact .tuple ho hc hd (ImAll.reads I ds _ its h2 rv)
theorem ImAll.reads (I : Inv X pins σ H s) : ∀ (ds : List D) (vs : List V) (us : List Value), ImAll X.K H vs ds → Vals vs us → ReadsAll s.heap us (pys ds) []
  | [], _, _, h, r => by cases h; cases r; exact .nil
  | d :: ds, _, _, h, r => by
    cases h with
    | cons h1 h2 =>
      cases r with
      | cons r1 r2 => exact .cons (Im.reads I d _ _ h1 r1) (ImAll.reads I ds _ _ h2 r2)
end
theorem ImAll.each (I : Inv X pins σ H s) {h' : Heap} (k : ∀ b o, s.heap.get? b = some o → h'.get? b = some o) : ∀ {ds : List D} {vs : List V} {us : List Value}, ImAll X.K H vs ds → Vals vs us →
    W.EachIs (fun u d => (∃ v, RelV v u ∧ Im X.K H v d) ∧ Reads h' u (py d) []) us ds
  | [], _, _, h, r => by cases h; cases r; exact .nil
  | d :: ds, _, _, h, r => by
    cases h with
    | cons h1 h2 =>
      cases r with
      | cons r1 r2 => exact .cons ⟨⟨_, r1, h1⟩, PyProof.Rows.Reads.keeps (fun b o e => k b o e) (Im.reads I d _ _ h1 r1)⟩ (ImAll.each I k h2 r2)
end
theorem each_back {K : PySem.W.Frag} {H : Hp} : ∀ {us : List Value} {ds : List D}, W.EachIs (fun u d => ∃ v, RelV v u ∧ Im K H v d) us ds → ∃ vs, Vals vs us ∧ ImAll K H vs ds
  | _, _, .nil => ⟨[], .nil, .nil⟩
  | _, _, .cons ⟨v, r, i⟩ t => let ⟨vs, a, b⟩ := each_back t; ⟨v :: vs, .cons r a, .cons i b⟩
section
variable {prog : Program} {w : World} {A : Around} {E : Value → Shared → Prop} {s : Shared}
theorem collect_sz {it : Addr} {T : String} {o : Obj} {items : Array Value} {n : Nat} {Q : List Value → Shared → Prop} (hT : T = "list" ∨ T = "tuple") (ho : s.heap.get? it = some o) (hc : o.cls = .type T) (hd : o.data = .seq items n) (hsz : items.size ≤ sizeLine)
    (hQ : ∀ h', s.heap.objs.size ≤ h'.objs.size → (∀ b u, s.heap.get? b = some u → h'.get? b = some u) → Q items.toList { s with heap := h' }) : wpAny (model prog w) A (collect (.ref it)) Q E s := by
  generalize hh : s.heap.push { cls := .type "list", data := .seq ([] : List Value).toArray } = h0
  have a0 : h0.get? s.heap.objs.size = some { cls := .type "list", data := .seq #[] 0 } := by rw [← hh]; exact Heap.get?_push_size _ rfl
  have k0 : ∀ b u, s.heap.get? b = some u → h0.get? b = some u := fun b u q => by rw [← hh]; exact Heap.get?_push_of_some _ q
  have z0 : h0.objs.size = s.heap.objs.size + 1 := by rw [← hh]; exact Heap.size_push ..
  have a1 := Heap.get?_update_self (Obj.mapSeq (· ++ items)) a0 rfl
  generalize hg : h0.update s.heap.objs.size (Obj.mapSeq (· ++ items)) = h1 at a1
  have k1 : ∀ b u, s.heap.get? b = some u → h1.get? b = some u := fun b u q => by
    rw [← hg]
    exact (Heap.get?_update_other _ _ (Nat.ne_of_gt (Heap.lt_size q))).trans (k0 b u q)
  have z1 : s.heap.objs.size ≤ h1.objs.size := by rw [← hg, Heap.size_update, z0]; omega
  unfold collect
  refine wpAny_bind (wpAny_runValue (codeAny_builtin F.entry_proto_collect ?_))
  rw [Around.under_plainId F.plain_proto_collect _]
  refine wpAny_bind (wpAny_newObj_type ?_)
  rw [hh]
  refine wpAny_pure ⟨plainId_quiet F.plain_list_iadd _, codeAny_builtin F.entry_list_iadd ?_⟩
  rw [Around.under_plainId F.plain_list_iadd _]
  refine wpAny_mono (wpAny_extend_seq (hsz := hsz) (A := A) (R := fun r s' => r = .ok (.ret (.ref s.heap.objs.size)) ∧ s' = { s with heap := h1 }) (s := { s with heap := h0 }) _ it _ 0 hT a0 (k0 _ _ ho) hc hd ⟨rfl, by rw [hg]⟩) (fun fin s' q => ?_) fun e s' q => absurd q.1 (by simp)
  have done : wpAny (model prog w) A (do
      match (← load s.heap.objs.size).data with
        | Data.seq xs _ => pure xs.toList
        | _ => unsupported "internal:collect") Q E { s with heap := h1 } := by
    refine wpAny_bind (wpAny_load a1 (wpAny_pure ?_))
    have z : ((#[] : Array Value) ++ items).toList = items.toList := by simp
    show Q ((#[] : Array Value) ++ items).toList _
    rw [z]
    exact hQ h1 z1 k1
  cases fin with
  | done f =>
    obtain ⟨q1, rfl⟩ := q
    cases q1
    exact done
  | again c' =>
    refine ⟨q.1, codeAny_mono q.2 fun r s'' qr => ?_⟩
    obtain ⟨rfl, rfl⟩ := qr
    exact done
/-- sorted(xs), xs a list or a tuple -/
theorem sorted_seq {l : Addr} {T : String} {o : Obj} {vs : List Value} {n : Nat} {ds : List D} {R : Value → D → Prop} {Q : Value → Shared → Prop} (hT : T = "list" ∨ T = "tuple") (ho : s.heap.get? l = some o) (hc : o.cls = .type T) (hd : o.data = .seq vs.toArray n)
    (e : ∀ h', (∀ b u, s.heap.get? b = some u → h'.get? b = some u) → W.EachIs (fun u d => R u d ∧ Reads h' u (py d) []) vs ds) (hal : W.AllAlike (ds.map py)) (hk : W.Sortable (ds.map py)) (hL : ds.length ≤ sizeLine) (hu : ∀ d, d ∈ ds → A.units + 2 + (py d).depth < cLine)
    (h : ∀ out h' a ep, s.heap.objs.size ≤ a → (∀ b u, s.heap.get? b = some u → h'.get? b = some u) → h'.get? a = some (PyProof.Rows.seqObj "list" (List.toArray out) ep) → out.length = ds.length → W.EachIs R out (ds.mergeSort (W.dataLe false py)) → Q (.ref a) { s with heap := h' }) :
    wpAny (model prog w) A (call (.builtin "sorted") [.ref l]) Q E s := by
  have hlen : vs.length = ds.length := (e s.heap fun _ _ q => q).length
  refine Calls.call_function_entry PyProof.Rows.kind_sorted PyProof.Rows.plain_sorted PyProof.Rows.entry_sorted (PyProof.Rows.args_sorted1 _) ?_
  unfold Builtin.«sorted»
  refine wpAny_bind (m := checkCount "sorted" 1 1 _) (wpAny_pure ?_)
  refine wpAny_bind (collect_sz hT ho hc hd (by rw [List.size_toArray, hlen]; exact hL) fun h1 le k1 => ?_)
  refine wpAny_bind (wpAny_newList ?_ (by simpa [hlen] using hL))
  have k2 : ∀ b u, s.heap.get? b = some u → (h1.push (PyProof.Rows.seqObj "list" vs.toArray 0)).get? b = some u := fun b u q => Heap.get?_push_of_some _ (k1 b u q)
  have ea := e _ k2
  refine wpAny_bind (wpAny_holding (W.list_sort_data (R := R) (bs := ds) (enc := py) (n := 0) (vs := vs) ?_ (ea.mono fun _ _ q => q.1) (ea.mono fun _ _ q => ⟨[], q.2, by simp⟩) hal hk hL ?_ fun out h1' h2' => ?_))
  · have z : vs.toArray.toList = vs := by simp
    rw [z]
    exact Heap.get?_push_size _ rfl
  · intro d hd
    exact hu d hd
  · have z : vs.toArray.toList = vs := by simp
    have keep : ∀ b u, s.heap.get? b = some u → (PyProof.Rows.sortedHeap (h1.push (PyProof.Rows.seqObj "list" vs.toArray 0)) h1.objs.size vs out.toArray).get? b = some u := fun b u q => by
      have lt := Heap.lt_size (k1 b u q)
      rw [PyProof.Rows.sortedHeap_old (Nat.ne_of_lt lt) (by rw [Heap.size_push]; exact Nat.lt_succ_of_lt lt)]
      exact k2 b u q
    obtain ⟨ep, he⟩ := PyProof.Rows.sortedHeap_at (vs := vs) (out := out.toArray) (n := 0) (h := h1.push (PyProof.Rows.seqObj "list" vs.toArray 0)) (a := h1.objs.size) (Heap.get?_push_size _ rfl)
    refine wpAny_pure ⟨_, rfl, ?_⟩
    show Q (.ref h1.objs.size) { s with heap := PyProof.Rows.sortedHeap (h1.push (PyProof.Rows.seqObj "list" vs.toArray.toList.toArray 0)) h1.objs.size vs out.toArray }
    rw [z]
    exact h out _ _ ep le keep he h1' h2'
end
end Dl

/-! sorted by data, dicts with nested keys -/
namespace Dl
open PySem PySem.Spec L2
/-! ### sorted -/
def rSortD (K : PySem.W.Frag) : List V → Hp → VK → Prop := fun vs H Q => ∃ (a : Addr) (ys : List V) (ds : List D), vs = [V.ref a] ∧ (SqL K H a ys ∨ SqT K H a ys) ∧ ImAll K H ys ds ∧ W.AllAlike (ds.map py) ∧ W.Sortable (ds.map py) ∧ (∀ d ∈ ds, (py d).depth ≤ 60) ∧
  ∀ zs p, ImAll K H zs (ds.mergeSort (W.dataLe false py)) → H p = none → Q (.ref p) (upd H p (.lst zs))
theorem cr_sortD {X : Cx} (hu : X.A.units + 64 < cLine) : CallR X (.builtin "sorted") (rSortD X.K) := by
  intro pins s σ H vs us Q I r h
  obtain ⟨a, ys, ds, rfl, hs, hd, h1, h2, h3, q⟩ := h
  rw [Vals.ref1 r]
  obtain ⟨T, o, its, n, hT, ho, hc, hdt, rv, hz⟩ : ∃ (T : String) (o : Obj) (its : List Value) (n : Nat), (T = "list" ∨ T = "tuple") ∧ s.heap.get? a = some o ∧ o.cls = .type T ∧ o.data = .seq its.toArray n ∧ Vals ys its ∧ ys.length ≤ sizeLine := by
    rcases hs with hs | hs
    · obtain ⟨its, rv, ⟨o, n, ho, hc, _, hd⟩, hz⟩ := I.list hs
      exact ⟨"list", o, its, n, .inl rfl, ho, hc, hd, rv, hz⟩
    · obtain ⟨its, rv, ⟨o, ho, hc, n, hd⟩, hz⟩ := I.tuple hs
      exact ⟨"tuple", o, its, n, .inr rfl, ho, hc, hd, rv, hz⟩
  have hl := hd.length
  refine sorted_seq (R := fun u d => ∃ v, RelV v u ∧ Im X.K H v d) hT ho hc hdt (fun h' k => hd.each I k rv) h1 h2 (by omega) (fun d hd => by have := h3 d hd; omega) fun out h' b ep lb k hb ln he => ?_
  obtain ⟨zs, rz, iz⟩ := each_back he
  have hlen : zs.length ≤ sizeLine := by rw [iz.length, List.length_mergeSort]; omega
  exact ⟨.ref b, upd H b (.lst zs), I.laid (t' := s.toks) k lb ⟨hlen, out, ep, rz, hb⟩, rfl, q zs b iz (I.hok.fresh lb)⟩
section
variable {B : Bs} {S : Sy} {ta tb te : TE} {F : Arg → Sy → Prop}
theorem wc_sortL {n : Nat} {p : Addr} {ds : List D} {b : Bool} (hm : S.m[n]? = some (p, .lst (ds.map Arg.d), b)) (h1 : W.AllAlike (ds.map py)) (h2 : W.Sortable (ds.map py)) (h3 : ∀ d ∈ ds, (py d).depth ≤ 60)
    (k : ∀ l, F (.a l) { S with m := S.m ++ [(l, .lst ((ds.mergeSort (W.dataLe false py)).map Arg.d), true)] }) : WC B (rSortD B.K) [.a p] S F := fun σ H st us hu Q q => by
  obtain ⟨v, rfl, hv⟩ := hu.one
  obtain rfl := hv.ref
  obtain ⟨vs, e1, e2⟩ := (st.ct _ (List.mem_of_getElem? hm)).lstx
  refine ⟨p, vs, ds, rfl, .inl (SqL.of e1), e2.im, h1, h2, h3, fun zs l iz hl => ?_⟩
  have e : Ext H (upd H l (.lst zs)) := Ext.new hl
  exact q _ _ _ _ (k l) (st.new e hl ⟨_, upd_same, ARs.of_im (ImAll.mono e.t _ _ iz)⟩) e.t rfl
theorem wc_sortT {ds : List D} (h1 : W.AllAlike (ds.map py)) (h2 : W.Sortable (ds.map py)) (h3 : ∀ d ∈ ds, (py d).depth ≤ 60)
    (k : ∀ l, F (.a l) { S with m := S.m ++ [(l, .lst ((ds.mergeSort (W.dataLe false py)).map Arg.d), true)] }) : WC B (rSortD B.K) [.d (.tup ds)] S F := fun σ H st us hu Q q => by
  obtain ⟨v, rfl, hv⟩ := hu.one
  obtain ⟨a, vs, rfl, e1, e2⟩ := hv.tup
  refine ⟨a, vs, ds, rfl, .inr e1, e2, h1, h2, h3, fun zs l iz hl => ?_⟩
  have e : Ext H (upd H l (.lst zs)) := Ext.new hl
  exact q _ _ _ _ (k l) (st.new e hl ⟨_, upd_same, ARs.of_im (ImAll.mono e.t _ _ iz)⟩) e.t rfl
end
/-! ### dicts -/
def lookN (kvs : List (NestedKey × D)) (k : NestedKey) : Option D := (kvs.find? fun x => decide (x.1 = k)).map (·.2)
def putN (kvs : List (NestedKey × D)) (k : NestedKey) (d : D) : List (NestedKey × D) := if (lookN kvs k).isSome then kvs.map (fun x => if x.1 = k then (x.1, d) else x) else kvs ++ [(k, d)]
theorem putN_len (kvs : List (NestedKey × D)) (k : NestedKey) (d : D) : (putN kvs k d).length ≤ kvs.length + 1 := by
  unfold putN
  split <;> simp
theorem KN.look {K : PySem.W.Frag} {H : Hp} {kvs : List (NestedKey × D)} {xs : List (NestedKey × Addr × Value)} (h : KN K H kvs xs) (k : NestedKey) :
    (lookN kvs k = none ∧ atKey xs k = none) ∨ ∃ d p, lookN kvs k = some d ∧ atKey xs k = some p ∧ ∃ v, RelV v p.2 ∧ Im K H v d := by
  induction h with
  | nil => exact .inl ⟨rfl, rfl⟩
  | @cons p q ps qs h t ih =>
    obtain ⟨h1, _, h2⟩ := h
    by_cases e : p.1 = k
    · have e' : q.1 = k := h1.symm.trans e
      exact .inr ⟨p.2, q.2, by simp [lookN, List.find?_cons, e], by simp [atKey, List.find?_cons, e'], h2⟩
    · have e' : ¬ q.1 = k := fun z => e (h1.trans z)
      have a1 : lookN (p :: ps) k = lookN ps k := by simp [lookN, List.find?_cons, e]
      have a2 : atKey (q :: qs) k = atKey qs k := by simp [atKey, List.find?_cons, e']
      rw [a1, a2]
      exact ih
theorem KN.put {K : PySem.W.Frag} {H : Hp} {kvs : List (NestedKey × D)} {xs : List (NestedKey × Addr × Value)} (h : KN K H kvs xs) {kd d : D} {b : Addr} {v : V} {u : Value} (hk : Im K H (.ref b) kd) (hd : (key kd).depth ≤ 8) (hv : Im K H v d) (ru : RelV v u) :
    KN K H (putN kvs (key kd) d) (storedH xs (key kd) b u) := by
  have z : (lookN kvs (key kd)).isSome = (atKey xs (key kd)).isSome := by
    rcases h.look (key kd) with ⟨a, b⟩ | ⟨_, _, a, b, _⟩ <;> rw [a, b] <;> rfl
  unfold putN storedH
  rw [z]
  split
  · have mp : ∀ {l : List (NestedKey × D)} {m : List (NestedKey × Addr × Value)}, KN K H l m → KN K H (l.map fun x => if x.1 = key kd then (x.1, d) else x) (m.map (putAt (key kd) u)) := by
      intro l m q
      induction q with
      | nil => exact .nil
      | @cons p q ps qs h t ih =>
        refine .cons ?_ ih
        obtain ⟨h1, h2, h3⟩ := h
        unfold putAt
        by_cases e : p.1 = key kd
        · have e' := h1.symm.trans e
          simp only [e, e', if_true]
          exact ⟨trivial, by rw [← e]; exact h2, v, ru, hv⟩
        · have e' : ¬ q.1 = key kd := fun z => e (h1.trans z)
          simp only [e, e', if_false]
          exact ⟨h1, h2, h3⟩
    exact mp h
  · have app : ∀ {l : List (NestedKey × D)} {m : List (NestedKey × Addr × Value)}, KN K H l m → KN K H (l ++ [(key kd, d)]) (m ++ [(key kd, b, u)]) := by
      intro l m q
      induction q with
      | nil => exact .cons ⟨rfl, ⟨kd, hk, rfl, hd⟩, v, ru, hv⟩ .nil
      | cons h t ih => exact .cons h ih
    exact app h
section
variable {X : Cx} {pins : List (Addr × Obj)} {σ : St} {H : Hp} {s : Shared}
mutual
theorem Im.nested (I : Inv X pins σ H s) : ∀ (d : D) (v : V) (u : Value), Im X.K H v d → RelV v u → NestedIs s.heap (key d) u
  | .non, _, _, h, r => by cases h; cases r; exact .none
  | .bl b, _, _, h, r => by cases h; cases r; exact .bool rfl
  | .int i, _, _, h, r => by
    cases h
    obtain ⟨t, rfl⟩ := r
    exact .int i t
  | .tup ds, _, _, h, r => by
    cases h with
    | tup h1 h2 =>
      obtain rfl := r
      obtain ⟨its, rv, ⟨o, ho, hc, n, hd⟩, _⟩ := I.tuple h1
      exact .tup ho hc hd (by simpa using ImAll.nested I ds _ its h2 rv)
theorem ImAll.nested (I : Inv X pins σ H s) : ∀ (ds : List D) (vs : List V) (us : List Value), ImAll X.K H vs ds → Vals vs us → NestedAll s.heap (keys ds) us
  | [], _, _, h, r => by cases h; cases r; exact .nil
  | d :: ds, _, _, h, r => by
    cases h with
    | cons h1 h2 =>
      cases r with
      | cons r1 r2 => exact .cons (Im.nested I d _ _ h1 r1) (ImAll.nested I ds _ _ h2 r2)
end
theorem dn_rd (I : Inv X pins σ H s) {a : Addr} {kvs : List (NestedKey × D)} {xs : List (NestedKey × Addr × Value)} (e : H a = some (.ext (dnPhi X.prog X.w a xs))) (h : KN X.K H kvs xs) : s.heap.DictOfH (nestedKind X.prog X.w) a xs := by
  obtain ⟨⟨o, es, ep, h1, h2, h3, h4, h5⟩, _, _⟩ := I.hok a _ e
  refine ⟨o, es, ep, h1, h2, h3, h4, ?_, h5⟩
  have all : ∀ {l : List (NestedKey × D)} {m : List (NestedKey × Addr × Value)}, KN X.K H l m → ∀ x ∈ m, (nestedKind X.prog X.w).is s.heap x.1 x.2.1 := by
    intro l m q
    induction q with
    | nil => intro x hx; exact nomatch hx
    | @cons p q ps qs hq t ih =>
      intro x hx
      rcases List.mem_cons.mp hx with e | hx
      · subst e
        obtain ⟨e1, ⟨kd, k1, k2, k3⟩, _⟩ := hq
        have z := Im.nested I kd _ _ k1 (show RelV (.ref x.2.1) (.ref x.2.1) from rfl)
        rw [← e1, ← k2]
        exact ⟨z, k3⟩
      · exact ih x hx
  exact all h
/-- the object of a dict -/
theorem dn_ok {P : Program} {w : World} {H : Hp} {h : Heap} {a : Addr} {xs : List (NestedKey × Addr × Value)} (d : h.DictOfH (nestedKind P w) a xs) : ObjOk P w H h a (.ext (dnPhi P w a xs)) := by
  obtain ⟨o, es, ep, h1, h2, h3, h4, _, h5⟩ := d
  refine ⟨⟨o, es, ep, h1, h2, h3, h4, h5⟩, ⟨o, h1⟩, ?_⟩
  rintro g1 g2 ⟨o, es, ep, h1, h2, h3, h4, h5⟩ k
  exact ⟨o, es, ep, k o h1, h2, h3, h4, h5⟩
end
/-- d[k] -/
def rNGet (P : Program) (w : World) (K : PySem.W.Frag) : R2 := fun x y H Q => ∃ a xs b kd kvs d, x = .ref a ∧ y = .ref b ∧ H a = some (.ext (dnPhi P w a xs)) ∧ KN K H kvs xs ∧ Im K H (.ref b) kd ∧ (key kd).depth ≤ 8 ∧ lookN kvs (key kd) = some d ∧ ∀ v, Im K H v d → Q v H
def rNIn (P : Program) (w : World) (K : PySem.W.Frag) (neg : Bool) : R2 := fun y x H Q => ∃ a xs b kd kvs, x = .ref a ∧ y = .ref b ∧ H a = some (.ext (dnPhi P w a xs)) ∧ (a == sysModules) = false ∧ KN K H kvs xs ∧ Im K H (.ref b) kd ∧ (key kd).depth ≤ 8 ∧
  Q (.bl (if neg then !(lookN kvs (key kd)).isSome else (lookN kvs (key kd)).isSome)) H
def rNSet (P : Program) (w : World) (K : PySem.W.Frag) : V → V → V → Hp → (Hp → Prop) → Prop := fun x y v H Q => ∃ a xs b kd kvs d, x = .ref a ∧ y = .ref b ∧ H a = some (.ext (dnPhi P w a xs)) ∧ KN K H kvs xs ∧ kvs.length ≤ 1000000 ∧ Im K H (.ref b) kd ∧ (key kd).depth ≤ 8 ∧ Im K H v d ∧
  ∀ xs', (∀ H', T H H' → KN K H' (putN kvs (key kd) d) xs') → Q (upd H a (.ext (dnPhi P w a xs')))
section
variable {X : Cx}
theorem room_n (hu : X.A.units + 64 < cLine) : (nestedKind X.prog X.w).room X.A.in1 := by
  show X.A.in1.units + 8 < cLine
  rw [Around.in1_units]
  omega
theorem ix_nget (hu : X.A.units + 64 < cLine) : IxR X (rNGet X.prog X.w X.K) := by
  intro value slice pins s σ H x y v u Q I rx ry h hs
  obtain ⟨a, xs, b, kd, kvs, d, rfl, rfl, ha, hk, hb, h8, hl, q⟩ := h
  obtain rfl : v = Value.ref a := rx
  obtain rfl : u = Value.ref b := ry
  have dd := dn_rd I ha hk
  rcases hk.look (key kd) with ⟨z, _⟩ | ⟨d', p, z, hp, v, rv, iv⟩
  · rw [z] at hl; cases hl
  · rw [z] at hl
    obtain rfl := Option.some.inj hl
    exact PyProof.Rows.subscriptTail_builtinR (x := p.2) dd.typeIs PySem.F.slot_dict_getitem.lookup
      (wpAny_getItem_heap (Q := fun r s' => r = p.2 ∧ EP X pins σ Q r s') (room_n hu) ⟨Im.nested I kd _ _ hb rfl, h8⟩ dd hp ⟨rfl, v, H, I.tok _, rv, q v iv⟩) hs
theorem op_nin (hu : X.A.units + 64 < cLine) : OpR X (compareOp .In) (rNIn X.prog X.w X.K false) := by
  intro pins s σ H y x u v Q I ry rx h
  obtain ⟨a, xs, b, kd, kvs, rfl, rfl, ha, hd, hk, hb, h8, q⟩ := h
  obtain rfl : v = Value.ref a := rx
  obtain rfl : u = Value.ref b := ry
  have dd := dn_rd I ha hk
  have z : (lookN kvs (key kd)).isSome = (atKey xs (key kd)).isSome := by
    rcases hk.look (key kd) with ⟨a, b⟩ | ⟨_, _, a, b, _⟩ <;> rw [a, b] <;> rfl
  refine wpAny_in_heap (room_n hu) ⟨Im.nested I kd _ _ hb rfl, h8⟩ hd dd ?_
  rw [← z]
  exact ⟨.bl _, H, I.tok _, rfl, q⟩
theorem op_nnotin (hu : X.A.units + 64 < cLine) : OpR X (compareOp .NotIn) (rNIn X.prog X.w X.K true) := by
  intro pins s σ H y x u v Q I ry rx h
  obtain ⟨a, xs, b, kd, kvs, rfl, rfl, ha, hd, hk, hb, h8, q⟩ := h
  obtain rfl : v = Value.ref a := rx
  obtain rfl : u = Value.ref b := ry
  have dd := dn_rd I ha hk
  have z : (lookN kvs (key kd)).isSome = (atKey xs (key kd)).isSome := by
    rcases hk.look (key kd) with ⟨a, b⟩ | ⟨_, _, a, b, _⟩ <;> rw [a, b] <;> rfl
  refine PyProof.Rows.wpAny_notIn_heap (room_n hu) ⟨Im.nested I kd _ _ hb rfl, h8⟩ hd dd ?_
  rw [← z]
  exact ⟨.bl _, H, I.tok _, rfl, q⟩
theorem set_n (hu : X.A.units + 64 < cLine) : PSet X (rNSet X.prog X.w X.K) := by
  intro pins s σ H o i v ov iv u Q I ro ri rv h
  obtain ⟨a, xs, b, kd, kvs, d, rfl, rfl, ha, hk, hz, hb, h8, hv, q⟩ := h
  obtain rfl : ov = Value.ref a := ro
  obtain rfl : iv = Value.ref b := ri
  have dd := dn_rd I ha hk
  have hl : kvs.length = xs.length := Paired.length hk
  refine wpAny_setItem_heap (hsz := Nat.le_trans (by omega) (show 1000000 ≤ sizeLine by decide)) (room_n hu) ⟨Im.nested I kd _ _ hb rfl, h8⟩ dd fun h' dd' hs => ?_
  refine ⟨_, d_write I (by rw [ha]; exact True.intro) hs ?_ (dn_ok dd'), q _ fun H' t => ?_⟩
  · obtain ⟨o, _, _, e, _⟩ := dd'
    exact ⟨o, e⟩
  · exact KN.put (hk.mono t) (Im.mono t _ _ hb) h8 (Im.mono t _ _ hv) rv
/-- {} -/
def tNNew (P : Program) (w : World) : TE := fun _ H Q => ∀ p, H p = none → (p == sysModules) = false → Q (.ref p) (upd H p (.ext (dnPhi P w p [])))
theorem pe_nnew {pos : Pos} : PE X (.Dict [] [] pos) (tNNew X.prog X.w) := ⟨fun pins s σ H Q I h =>
  wpAny_Dict_empty ⟨.ref s.heap.objs.size, _, I.laid (a := s.heap.objs.size) (o := .ext (dnPhi X.prog X.w s.heap.objs.size [])) (t' := s.toks) (fun _ _ q => Heap.get?_push_of_some _ q) (Nat.le_refl _) (dn_ok (Heap.DictOfH.new s.heap)), rfl,
    h _ (I.hok.fresh (Nat.le_refl _)) (beq_eq_false_iff_ne.mpr (Ne.symm (Nat.ne_of_lt I.big)))⟩⟩
/-- {k: v} -/
def tNOne (P : Program) (w : World) (K : PySem.W.Frag) (tk tv : TE) : TE := fun σ H Q => ∀ p, H p = none → (p == sysModules) = false → tk σ (upd H p (.ext (dnPhi P w p []))) fun x H1 => tv σ H1 fun y H2 => H2 p = some (.ext (dnPhi P w p [])) ∧
  ∃ b kd d, x = .ref b ∧ Im K H2 (.ref b) kd ∧ (key kd).depth ≤ 8 ∧ Im K H2 y d ∧ ∀ xs, (∀ H', T H2 H' → KN K H' [(key kd, d)] xs) → Q (.ref p) (upd H2 p (.ext (dnPhi P w p xs)))
theorem pe_none1 (hu : X.A.units + 64 < cLine) {pos : Pos} {k v : Expr} {tk tv : TE} (hk : PE X k tk) (hv : PE X v tv) : PE X (.Dict [some k] [v] pos) (tNOne X.prog X.w X.K tk tv) := by
  refine ⟨fun pins s σ H Q I q => ?_⟩
  have hn := I.hok.fresh (Nat.le_refl s.heap.objs.size)
  have I1 := I.laid (a := s.heap.objs.size) (o := .ext (dnPhi X.prog X.w s.heap.objs.size [])) (h' := s.heap.push { cls := .type "dict", data := .dict #[] }) (t' := s.toks) (fun _ _ q => Heap.get?_push_of_some _ q) (Nat.le_refl _) (dn_ok (Heap.DictOfH.new s.heap))
  have q' := q _ hn (beq_eq_false_iff_ne.mpr (Ne.symm (Nat.ne_of_lt I.big)))
  have hr : (nestedKind X.prog X.w).room X.A := by
    show X.A.units + 8 < cLine
    omega
  have len := pairTrees_length [some k] [v] X.env pos rfl rfl
  have len1 : (pairTrees [some k] [v] X.env pos).length ≤ 15 := by rw [len]; exact (by decide : 1 ≤ 15)
  rw [arm_eval_Dict, zip_pairTrees [some k] [v] X.env pos rfl rfl, dictDisplay_pairs _ (fun e => by rw [e] at len; cases len) (Nat.lt_succ_of_le (Nat.le_trans len1 (by decide)))]
  refine wpAny_bind (wpAny_standAt (wpAny_bind (wpAny_subDictH (knd := nestedKind X.prog X.w) hr len1 ?_)))
  refine thn ((pps_cons hk hv (pps_nil (pos := pos))).run pins _ σ _ (fun ps H2 => match ps with
    | [(x, y)] => H2 s.heap.objs.size = some (.ext (dnPhi X.prog X.w s.heap.objs.size [])) ∧ ∃ b kd d, x = .ref b ∧ Im X.K H2 (.ref b) kd ∧ (key kd).depth ≤ 8 ∧ Im X.K H2 y d ∧ ∀ xs, (∀ H', T H2 H' → KN X.K H' [(key kd, d)] xs) → Q (.ref s.heap.objs.size) (upd H2 s.heap.objs.size (.ext (dnPhi X.prog X.w s.heap.objs.size xs)))
    | _ => False) I1 q') fun ws s2 ⟨ps, H2, I2, rel, e⟩ => ?_
  cases rel with
  | nil => exact e.elim
  | @cons p w ps ws h1 h2 =>
    cases h2 with
    | cons _ _ => exact e.elim
    | nil =>
      obtain ⟨e, b, kd, d, ex, ib, h8, iy, q2⟩ := e
      obtain ⟨w1, w2⟩ := w
      obtain ⟨rx, ry⟩ := h1
      dsimp only at ex rx ry iy ib
      rw [ex] at rx
      obtain rfl : w1 = Value.ref b := rx
      have dd := dn_rd I2 e (.nil : KN X.K H2 [] [])
      refine ⟨[(key kd, b, w2)], ⟨rfl, rfl, ⟨Im.nested I2 kd _ _ ib rfl, h8⟩, trivial⟩, dd, fun h' tk dd' hs => ?_⟩
      refine wpAny_pure ⟨.ref s.heap.objs.size, upd H2 s.heap.objs.size (.ext (dnPhi X.prog X.w s.heap.objs.size [(key kd, b, w2)])), d_write I2 (by rw [e]; exact True.intro) hs ?_ (dn_ok dd'), rfl, q2 _ fun H' t => .cons ⟨rfl, ⟨kd, Im.mono t _ _ ib, rfl, h8⟩, _, ry, Im.mono t _ _ iy⟩ .nil⟩
      obtain ⟨o, _, _, eo, _⟩ := dd'
      exact ⟨o, eo⟩
end
section
variable {B : Bs} {S : Sy} {ta tb te : TE} {F : Arg → Sy → Prop}
theorem CtIs.dctx {B : Bs} {H : Hp} {p : Addr} {kvs : List (NestedKey × D)} (h : CtIs B H p (.dct kvs)) : kvs.length ≤ sizeLine ∧ (p == sysModules) = false ∧ ∃ xs, H p = some (.ext (dnPhi B.P B.w p xs)) ∧ KN B.K H kvs xs := h
theorem wr_nget {n : Nat} {p : Addr} {kvs : List (NestedKey × D)} {b : Bool} {ds : List D} {d : D} (hm : S.m[n]? = some (p, .dct kvs, b)) (h8 : (key (.tup ds)).depth ≤ 8) (hl : lookN kvs (key (.tup ds)) = some d) (k : F (.d d) S) : WR B (rNGet B.P B.w B.K) (.a p) (.d (.tup ds)) S F := fun σ H st u v hu hv Q q => by
  obtain rfl := hu.ref
  obtain ⟨_, _, xs, h1, h2⟩ := (st.ct _ (List.mem_of_getElem? hm)).dctx
  obtain ⟨a, vs, rfl, _, _⟩ := AR.tup hv
  exact ⟨p, xs, a, _, kvs, d, rfl, rfl, h1, h2, hv, h8, hl, fun v iv => q _ S v H k st (T.refl H) iv⟩
theorem wr_nin {n : Nat} {p : Addr} {kvs : List (NestedKey × D)} {b neg : Bool} {ds : List D} (hm : S.m[n]? = some (p, .dct kvs, b)) (h8 : (key (.tup ds)).depth ≤ 8) (k : F (.d (.bl (if neg then !(lookN kvs (key (.tup ds))).isSome else (lookN kvs (key (.tup ds))).isSome))) S) : WR B (rNIn B.P B.w B.K neg) (.d (.tup ds)) (.a p) S F := fun σ H st u v hu hv Q q => by
  obtain rfl := hv.ref
  obtain ⟨_, hs, xs, h1, h2⟩ := (st.ct _ (List.mem_of_getElem? hm)).dctx
  obtain ⟨a, vs, rfl, _, _⟩ := AR.tup hu
  exact ⟨p, xs, a, _, kvs, rfl, rfl, h1, hs, h2, hu, h8, q _ S _ H k st (T.refl H) (Im.bl _)⟩
/-- d[k] = x -/
theorem wg_nset {to ti : TE} {y : D} {F : Sy → Prop} (h : WX B to S fun x S1 => WX B ti S1 fun i S2 => ∃ (p : Addr) (n : Nat) (kvs : List (NestedKey × D)) (ds : List D), x = .a p ∧ i = .d (.tup ds) ∧ S2.m[n]? = some (p, .dct kvs, true) ∧ kvs.length < 1000000 ∧ (key (.tup ds)).depth ≤ 8 ∧ F { S2 with m := S2.m.set n (p, .dct (putN kvs (key (.tup ds)) y), true) }) :
    WG B (gSub to ti (rNSet B.P B.w B.K)) (.d y) S F := fun σ H st v hv Q q =>
  h σ H st _ fun x S1 u H1 f1 st1 t1 a1 => f1 σ H1 st1 _ fun i S2 w H2 f2 st2 t2 a2 => by
    obtain ⟨p, n, kvs, ds, rfl, rfl, hm, hz, h8, f2⟩ := f2
    obtain rfl : u = .ref p := a1
    obtain ⟨_, hs, xs, h1, h2⟩ := (st2.ct _ (List.mem_of_getElem? hm)).dctx
    obtain ⟨a, vs, rfl, _, _⟩ := AR.tup a2
    have t12 : T H H2 := t1.trans t2
    refine ⟨p, xs, a, _, kvs, y, rfl, rfl, h1, h2, by omega, a2, h8, Im.mono t12 _ _ hv, fun xs' hk => ?_⟩
    obtain ⟨st3, t3⟩ := st2.mut hm (c' := .dct (putN kvs (key (.tup ds)) y)) (u := .ext (dnPhi B.P B.w p xs')) ⟨sz_ok (by have := putN_len kvs (key (.tup ds)) y; omega), hs, xs', upd_same, hk _ (T.mut h1 rfl)⟩
    exact q _ _ _ f2 st3 (t12.trans t3)
theorem wx_nnew (k : ∀ p, F (.a p) { S with m := S.m ++ [(p, .dct [], true)] }) : WX B (tNNew B.P B.w) S F := fun σ H st Q q p hp hs => by
  have e : Ext H (upd H p (.ext (dnPhi B.P B.w p []))) := Ext.new hp
  exact q _ _ _ _ (k p) (st.new e hp ⟨Nat.zero_le _, hs, [], upd_same, .nil⟩) e.t rfl
theorem wx_none1 {tk tv : TE} (h : ∀ p, WX B tk { S with m := S.m ++ [(p, .dct [], true)] } fun x S1 => ∃ ds, x = .d (.tup ds) ∧ (key (.tup ds)).depth ≤ 8 ∧ WX B tv S1 fun y S2 => ∃ d n, y = .d d ∧ S2.m[n]? = some (p, .dct [], true) ∧ F (.a p) { S2 with m := S2.m.set n (p, .dct [(key (.tup ds), d)], true) }) :
    WX B (tNOne B.P B.w B.K tk tv) S F := fun σ H st Q q p hp hs => by
  have e : Ext H (upd H p (.ext (dnPhi B.P B.w p []))) := Ext.new hp
  refine h p σ _ (st.new e hp ⟨Nat.zero_le _, hs, [], upd_same, .nil⟩) _ fun x S1 u H1 f1 st1 t1 a1 => ?_
  obtain ⟨ds, rfl, h8, f1⟩ := f1
  refine f1 σ H1 st1 _ fun y S2 v H2 f2 st2 t2 a2 => ?_
  obtain ⟨d, n, rfl, hm, f2⟩ := f2
  obtain ⟨_, _, xs, h1, h2⟩ := (st2.ct _ (List.mem_of_getElem? hm)).dctx
  cases h2
  obtain ⟨a, vs, rfl, _, _⟩ := AR.tup (a1.mono t2)
  refine ⟨h1, a, _, d, rfl, a1.mono t2, h8, a2, fun xs hk => ?_⟩
  obtain ⟨st3, t3⟩ := st2.mut hm (c' := .dct [(key (.tup ds), d)]) (u := .ext (dnPhi B.P B.w p xs)) ⟨sz_ok (show 1 ≤ 1000000 by decide), hs, xs, upd_same, hk _ (T.mut h1 rfl)⟩
  exact q _ _ _ _ f2 st3 (((e.t.trans t1).trans t2).trans t3) rfl
end
end Dl

/-! == of data, repr of a pair, defs that know what is under way -/
namespace Dl
open PySem PySem.Spec L2
/-! ### == -/
mutual
theorem Im.dp {K : PySem.W.Frag} {H : Hp} : ∀ (d : D) (v : V), Im K H v d → Dp K H v (py d)
  | .non, _, h => by cases h; exact .non
  | .bl b, _, h => by cases h; exact .bl b
  | .int i, _, h => by cases h; exact .int i
  | .tup ds, _, h => by
    cases h with
    | tup h1 h2 => exact .tup h1 (ImAll.dp ds _ h2)
theorem ImAll.dp {K : PySem.W.Frag} {H : Hp} : ∀ (ds : List D) (vs : List V), ImAll K H vs ds → DpAll K H vs (pys ds)
  | [], _, h => by cases h; exact .nil
  | d :: ds, _, h => by
    cases h with
    | cons h1 h2 => exact .cons (Im.dp d _ h1) (ImAll.dp ds _ h2)
end
mutual
theorem py_lay : ∀ d : D, (py d).canLay0 = true
  | .non => by simp only [py, PyData.canLay0]
  | .bl b => by simp only [py, PyData.canLay0]
  | .int i => by simp only [py, PyData.canLay0]
  | .tup ds => by
    simp only [py, PyData.canLay0]
    exact pys_lay ds
theorem pys_lay : ∀ ds : List D, PyData.canLayAll0 (pys ds) = true
  | [] => by simp only [pys, PyData.canLayAll0]
  | d :: ds => by simp only [pys, PyData.canLayAll0, py_lay d, pys_lay ds, Bool.and_self]
end
mutual
theorem py_nod : ∀ d : D, (py d).hasDict = false
  | .non => by simp only [py, PyData.hasDict]
  | .bl b => by simp only [py, PyData.hasDict]
  | .int i => by simp only [py, PyData.hasDict]
  | .tup ds => by
    simp only [py, PyData.hasDict]
    exact pys_nod ds
theorem pys_nod : ∀ ds : List D, PyData.hasDictAll (pys ds) = false
  | [] => by simp only [pys, PyData.hasDictAll]
  | d :: ds => by simp only [pys, PyData.hasDictAll, py_nod d, pys_nod ds, Bool.or_self]
end
theorem shaped_of {d : D} (h : (py d).depth ≤ 64) : SeqAt.shaped (py d) = true := by
  unfold SeqAt.shaped
  rw [py_lay d, decide_eq_true h]; rfl
theorem shaped_list {ds : List D} (h : (PyData.list (pys ds)).depth ≤ 64) : SeqAt.shaped (PyData.list (pys ds)) = true := by
  unfold SeqAt.shaped
  rw [decide_eq_true h, Bool.and_true]
  simp only [PyData.canLay0]
  exact pys_lay ds
section
variable {B : Bs} {S : Sy} {ta tb te : TE} {F : Arg → Sy → Prop}
theorem st_list {σ : St} {H : Hp} {n : Nat} {p : Addr} {ds : List D} {b : Bool} (st : Sat B S σ H) (hm : S.m[n]? = some (p, .lst (ds.map Arg.d), b)) : Dp B.K H (.ref p) (.list (pys ds)) := by
  obtain ⟨vs, h1, h2⟩ := (st.ct _ (List.mem_of_getElem? hm)).lstx
  exact .lst (SqL.of h1) (ImAll.dp _ _ h2.im)
theorem wr_eqE {n j : Nat} {p r : Addr} {ds : List D} {b c : Bool} (hm : S.m[n]? = some (p, .lst (ds.map Arg.d), b)) (hm2 : S.m[j]? = some (r, .lst [], c)) (hd : (PyData.list (pys ds)).depth ≤ 64) (k : F (.d (.bl ds.isEmpty)) S) : WR B (rEqD B.K) (.a p) (.a r) S F := fun σ H st u v hu hv Q q => by
  obtain rfl := hu.ref
  obtain rfl := hv.ref
  refine ⟨_, _, st_list st hm, st_list (ds := []) st hm2, shaped_list hd, rfl, ?_⟩
  have e : PyData.eqv (.list (pys ds)) (.list (pys [])) = ds.isEmpty := by cases ds <;> simp only [pys, PyData.eqv, PyData.eqvAll, List.isEmpty]
  rw [e]
  exact q _ S _ H k st (T.refl H) (Im.bl _)
theorem wr_neE {n j : Nat} {p r : Addr} {ds : List D} {b c : Bool} (hm : S.m[n]? = some (p, .lst (ds.map Arg.d), b)) (hm2 : S.m[j]? = some (r, .lst [], c)) (hd : (PyData.list (pys ds)).depth ≤ 64) (k : F (.d (.bl (!ds.isEmpty))) S) : WR B (rNeD B.K) (.a p) (.a r) S F := fun σ H st u v hu hv Q q => by
  obtain rfl := hu.ref
  obtain rfl := hv.ref
  refine ⟨_, _, st_list st hm, st_list (ds := []) st hm2, shaped_list hd, rfl, ?_⟩
  have e : PyData.eqv (.list (pys ds)) (.list (pys [])) = ds.isEmpty := by cases ds <;> simp only [pys, PyData.eqv, PyData.eqvAll, List.isEmpty]
  rw [e]
  exact q _ S _ H k st (T.refl H) (Im.bl _)
theorem wr_eqT {x y : D} (hx : (py x).depth ≤ 64) (hy : (py y).depth ≤ 64) (k : F (.d (.bl (PyData.eqv (py x) (py y)))) S) : WR B (rEqD B.K) (.d x) (.d y) S F := fun σ H st u v hu hv Q q =>
  ⟨_, _, Im.dp x u hu, Im.dp y v hv, shaped_of hx, shaped_of hy, q _ S _ H k st (T.refl H) (Im.bl _)⟩
end
/-! ### repr -/
def rReprD (K : PySem.W.Frag) : List V → Hp → VK → Prop := fun vs H Q => ∃ (a : Addr) (ds : List D), vs = [V.ref a] ∧ Im K H (.ref a) (.tup ds) ∧ (py (.tup ds)).showable = true ∧ (py (.tup ds)).shown.length ≤ sizeLine ∧ (py (.tup ds)).depth ≤ 60 ∧ Q (.str (py (.tup ds)).shown) H
theorem cr_reprD {X : Cx} (hu : X.A.units + 64 < cLine) (hg : X.A.guards = some []) : CallR X (.builtin "repr") (rReprD X.K) := by
  intro pins s σ H vs us Q I r h
  obtain ⟨a, ds, rfl, hi, hs, hz, h60, q⟩ := h
  rw [Vals.ref1 r]
  exact repr_of_reads' (Im.reads I (.tup ds) (.ref a) (.ref a) hi rfl) hs (fun z => by rw [py_nod] at z; cases z) hg (by omega) (fun _ _ e => e) (fun h' u tk k => ⟨.str _, H, I.kept k, ⟨_, rfl⟩, q⟩) hz
theorem shown_pair {a b : Int} (ha : a.natAbs.log2 < 1920) (hb : b.natAbs.log2 < 1920) : (py (.tup [.int a, .int b])).shown.length ≤ sizeLine := by
  refine Nat.le_trans (PyData.shown_le 1921 (by decide) _ ?_) (Nat.le_trans (m := 8000000) ?_ (by rw [sizeLine_eq]; decide))
  · simp only [py, pys, PyData.leavesShort, PyData.leavesShortAll, Bool.and_true, Bool.and_eq_true, decide_eq_true_eq]
    exact ⟨PyProof.Rows.int_text_len_1921 ha, PyProof.Rows.int_text_len_1921 hb⟩
  · simp only [py, pys, PyData.weight, PyData.weightAll]
    split <;> split <;> omega
section
variable {B : Bs} {S : Sy} {ta tb te : TE} {F : Arg → Sy → Prop}
/-- repr(x) == repr(y), of one pair of ints -/
theorem wx_same (h : WX B ta S fun x S1 => ∃ a b : Int, x = .d (.tup [.int a, .int b]) ∧ a.natAbs.log2 < 1920 ∧ b.natAbs.log2 < 1920 ∧ WX B tb S1 fun y S2 => y = .d (.tup [.int a, .int b]) ∧ F (.d (.bl true)) S2) :
    WX B (tOp rEq (tCB (rReprD B.K) (tCons ta tNil)) (tCB (rReprD B.K) (tCons tb tNil))) S F := fun σ H st Q q =>
  h σ H st _ fun x S1 u H1 f1 st1 t1 a1 => by
    obtain ⟨a, b, rfl, ha, hb, f1⟩ := f1
    have sh : (py (.tup [.int a, .int b])).showable = true := by
      simp only [py, pys, PyData.showable, PyData.showableAll, Bool.and_true, Bool.and_eq_true, decide_eq_true_eq]
      exact ⟨ha, hb⟩
    have dp : (py (.tup [.int a, .int b])).depth ≤ 60 := by
      simp only [py, pys, PyData.depth, PyData.depthAll]
      decide
    obtain ⟨p, vs, rfl, _, _⟩ := AR.tup a1
    refine ⟨p, _, rfl, a1, sh, shown_pair ha hb, dp, ?_⟩
    refine f1 σ H1 st1 _ fun y S2 v H2 f2 st2 t2 a2 => ?_
    obtain ⟨rfl, f2⟩ := f2
    obtain ⟨p2, vs2, rfl, _, _⟩ := AR.tup a2
    refine ⟨p2, _, rfl, a2, sh, shown_pair ha hb, dp, rfl, ?_⟩
    rw [decide_eq_true rfl]
    exact q _ S2 _ H2 f2 st2 (t1.trans t2) (Im.bl true)
end
/-! ### defs that know that nothing is under way -/
structure FnG (P : Program) (w : World) (K : PySem.W.Frag) (mg : Str → Option Value) (base : Heap) (k : Nat) (f : Addr) (fd : FuncData) (ps : List Str) (sp : Sp) : Prop where
  len : ∀ vs H Q E, sp vs H Q E → vs.length = ps.length
  run : ∀ (A : Around) (outer : List Env) (s : Shared) (H : Hp) (args : Args) (us : List Value) (vs : List V) (Q : VK) (E : XK), A.guards = some [] → Room k A → Env0 P w K mg base A outer s H → BindsTo s fd args (ps.zip us) → Vals vs us → sp vs H Q E →
    codeAny (model P w) A (.call (.ref f) args) (CR CX0 outer P w H s Q E) s
section
variable {P : Program} {w : World} {K : PySem.W.Frag} {mg : Str → Option Value} {base : Heap}
theorem sat_start {H : Hp} {N : List Str} {vs : List V} {as : List Arg} {m : List Ob} (h1 : ARs K H vs as) (h2 : ∀ e ∈ m, CtIsP P w K H e.1 e.2.1) (h3 : (m.map (·.1)).Nodup) (hl : as.length ≤ N.length) : Sat ⟨P, w, K, H, m⟩ (S0 N.length as m) (L2.start N vs) H := by
  have e : vs.length = as.length := Paired.length h1
  refine ⟨fun i y hy => ?_, ?_, fun y hy => ctIs_any rfl rfl rfl (h2 y hy), h3, fun y hy => .inr ⟨y, hy, rfl, id⟩, fun a o ha _ => ha⟩
  · have hi : i < as.length := by
      by_cases hi : i < as.length
      · exact hi
      · exfalso
        unfold S0 at hy
        rw [List.getElem?_append_right (by simpa using hi), List.getElem?_replicate] at hy
        split at hy <;> simp at hy
    have hy' : as[i]? = some y := by
      unfold S0 at hy
      rw [List.getElem?_append_left (by simpa using hi), List.getElem?_map] at hy
      cases q : as[i]? with
      | none => rw [q] at hy; cases hy
      | some z => rw [q] at hy; simp at hy; rw [hy]
    obtain ⟨v, hv, av⟩ := ARs.get h1 hy'
    refine ⟨v, ?_, av⟩
    unfold L2.start
    rw [List.getElem?_append_left (by simpa [e] using hi), List.getElem?_map, hv]
    rfl
  · unfold S0 L2.start
    simp only [List.length_append, List.length_map, List.length_replicate, e]
theorem fnG {x qual : Str} {st : Stmt} {f : Addr} {fd : FuncData} {N ps : List Str} {k : Nat} {sp : Sp} (Fu : Fun K x qual st f fd) (Sc : FnScope N ps (defScope st)) (len : ∀ vs H Q E, sp vs H Q E → vs.length = ps.length)
    (hb : ∀ (cdv : Value) (A : Around) (outer : List Env) (s : Shared) (H : Hp) (vs : List V) (Q : VK) (E : XK), A.guards = some [] → Room k (A.deeper (PyProof.Rows.envOfC qual (defScope st) s.heap.objs.size f cdv)) → sp vs H Q E →
      ∃ t, PSs (cxOf CX0 P w K mg base N qual (defScope st) f cdv A outer s H E).nox (defBody st) t ∧ t { nx := fun _ H' => Q .non H', rt := Q } (L2.start N vs) H) : FnG P w K mg base (k + 1) f fd ps sp := by
  obtain ⟨oc, od, kV, doc, pm, an, cdv, ct, osl, rfl, lk, hcd⟩ := Fu.ex
  refine ⟨len, fun A outer s H args us vs Q E hg room e0 bt rv sv => ?_⟩
  have keep : ∀ b o, base.get? b = some o → s.heap.get? b = some o := fun b o e => (e0.bs b o e).1
  have hlen := len _ _ _ _ sv
  refine Att.call_fn (e0.mod.kin.keeps keep) (e0.mod.nolimit.keeps keep) lk hcd room.depth bt ?_ (fun s1 ic => ?_) Sc.co Sc.gen Sc.kind
  · rw [List.all_eq_true]
    rintro ⟨n, v⟩ hy
    rcases Sc.par n (List.of_mem_zip hy).1 with q | q <;> simp [q]
  · obtain ⟨t, pt, go⟩ := hb cdv A outer s H vs Q E hg (room.deeper _) sv
    have start : Inv (cxOf CX0 P w K mg base N qual (defScope st) f cdv A outer s H E).nox [] (L2.start N vs) H s1 := (inv_start Sc room.hd e0 hlen rv ic).wish _
    have done : ∀ {σ' : St} {H' : Hp} {v : V} {u : Value} {s' : Shared}, Inv (cxOf CX0 P w K mg base N qual (defScope st) f cdv A outer s H E).nox [] σ' H' s' → RelV v u → Q v H' → CE outer P w H s Q u s' :=
      fun J r q => ⟨_, _, J.os, J.bare, J.base, J.hok, r, q⟩
    refine wpAny_mono (pt.run [] s1 _ H _ start go) (fun fl s' z => ?_) fun _ _ z => False.elim z
    cases fl with
    | ret u => obtain ⟨v, _, _, J, r, q⟩ := z; exact done J r q
    | next => obtain ⟨_, _, J, q⟩ := z; exact done (v := .non) (u := .none) J rfl q
    | brk => obtain ⟨_, _, _, q⟩ := z; exact q.elim
    | cont => obtain ⟨_, _, _, q⟩ := z; exact q.elim
/-- as fnD -/
theorem fnDG {x qual : Str} {st : Stmt} {f : Addr} {fd : FuncData} {N ps : List Str} {k : Nat} {A : Prom} (Fu : Fun K x qual st f fd) (Sc : FnScope N ps (defScope st)) (len : ∀ as m W, A as m W → as.length = ps.length)
    (hbody : ∀ (cdv : Value) (Ar : Around) (outer : List Env) (s : Shared) (H : Hp) (E : XK), Ar.guards = some [] → Room k (Ar.deeper (PyProof.Rows.envOfC qual (defScope st) s.heap.objs.size f cdv)) →
      ∃ t, PSs (cxOf CX0 P w K mg base N qual (defScope st) f cdv Ar outer s H E).nox (defBody st) t ∧ ∀ as m W, A as m W → WS ⟨P, w, K, H, m⟩ t (S0 N.length as m) (outE W)) : FnG P w K mg base (k + 1) f fd ps (spD P w K A) := by
  refine fnG Fu Sc (fun vs H Q E h => ?_) (fun cdv Ar outer s H vs Q E hg hr h => ?_)
  · obtain ⟨as, m, W, h1, h2, h3, h4, h5⟩ := h
    have e : vs.length = as.length := Paired.length h1
    rw [e]
    exact len as m W h4
  · obtain ⟨as, m, W, h1, h2, h3, h4, h5⟩ := h
    obtain ⟨t, ht, hw⟩ := hbody cdv Ar outer s H E hg hr
    refine ⟨t, ht, hw as m W h4 (L2.start N vs) H (sat_start h1 h2 h3 (by rw [len as m W h4, ← Sc.pre]; exact List.length_take_le' ..)) _ ⟨?_, ?_, ?_, ?_⟩⟩
    · rintro S' σ' H' ⟨m', hF, hs⟩ st' t'
      exact h5 _ m' _ H' hF (behind_of st' hs) (AR.mono (T.refl H') Im.non)
    · rintro x S' σ' v H' ⟨m', hF, hs⟩ st' t' a'
      exact h5 x m' v H' hF (behind_of st' hs) a'
    · intro _ _ _ h; exact h.elim
    · intro _ _ _ h; exact h.elim
end
section
variable {X : Cx} {k : Nat} {f : Addr} {fd : FuncData} {ps : List Str} {sp : Sp} {x : Str} {p pos : Pos} {e : Expr} {es : List Expr} {t : TA}
theorem pe_callG (Fu : FnG X.prog X.w X.K X.mg X.base k f fd ps sp) (hgd : X.A.guards = some []) (hr : Room k X.A) (hg : Gl X x) (hm : X.mg x = some (.ref f)) (hk : PySem.W.keepIn X.K (.ref f) = true) (hb : Binds X.K fd ps [])
    (ha : PA X (e :: es) t) (hdb : (x == ("__debug__" : Str)) = false := by decide) (he : starEach (e :: es) X.env = (false, eval e X.env) :: starEach es X.env := by rfl) (hpl : (backTo pos (starEach es X.env)).any (·.1) = false := by rfl) :
    PE X (.Call (.Name x p) (e :: es) [] pos) (tCall sp [] E0 t) := by
  constructor
  intro pins s σ H Q I h
  refine wpAny_Call_Name_kw (ld_glob I hg hm ?_ hdb)
  refine PySem.W.callWith_K (h₀ := X.base) I.ok.mod.kin hk (thn (ha.run pos pins s σ H _ I h) fun us s1 z => ?_) he hpl
  obtain ⟨vs, H1, I1, rv, q⟩ := z
  have q' : sp vs H1 Q E0 := by
    have z : sp (vs ++ []) H1 Q E0 := q
    rwa [List.append_nil] at z
  have hl : us.length = ps.length := by rw [← rv.length]; exact Fu.len _ _ _ _ q'
  have hbt := hb s1 us I1.kIn (by simpa using hl)
  rw [List.append_nil] at hbt
  refine ⟨I1.kIn, wpAny_call (codeAny_mono (Fu.run X.A X.stack s1 H1 ⟨us, []⟩ us vs Q E0 hgd hr I1.env0 hbt rv q') fun r s' c => ?_)⟩
  match r, c with
  | .error _, c => exact c.elim
  | .ok (.ret _), c => exact I1.after c
  | .ok .next, c => exact c.elim
  | .ok .brk, c => exact c.elim
  | .ok .cont, c => exact c.elim
end
end Dl

/-! the end of the law row, of a def that knows that nothing is under way -/
namespace Dl
open PySem PySem.Spec L2 PyProof.Rows
theorem guards_caller : callerA.guards = some [] := rfl
/-- what the law's def promises: its script, then True -/
def lawP (n : Nat) : Prom := fun as m W => ∃ ns : List Int, as = [.s ns] ∧ m = [] ∧ ns.length ≤ n ∧ (∀ z ∈ ns, Builtin.Int.intBits z ≤ 1048576) ∧ W (.d (.bl true)) []
section
variable {P : Program} {w : World} {K : PySem.W.Frag} {mg mb : Str → Option Value} {k n : Nat} {fa a : Addr} {fd : FuncData} {x : Str} {s₁ : Shared} {vs : List Value} {ns : List Int}
/-- the abstract heap of the head: the script alone, if it is none of the module's own -/
def headH (K : PySem.W.Frag) (a : Addr) (vs : List Value) (ns : List Int) : Hp := fun b => if b = a ∧ K.lookup a = none then some (.frz { cls := .type "list", data := .seq vs.toArray } (.lst (ns.map V.int))) else none
theorem headH_at {b : Addr} {o : HO} (h : headH K a vs ns b = some o) : b = a ∧ K.lookup a = none ∧ o = .frz { cls := .type "list", data := .seq vs.toArray } (.lst (ns.map V.int)) := by
  unfold headH at h
  split at h
  · rename_i q
    exact ⟨q.1, q.2, (Option.some.inj h).symm⟩
  · cases h
theorem headH_no {b : Addr} (h : b ≠ a) : headH K a vs ns b = none := if_neg fun q => h q.1
theorem head_run (hK : K.In s₁.heap) (hm : s₁.heap.Ns mainGlobals mg) (hb : s₁.heap.Ns builtinsNs mb) (hbb : ∀ x : Str, x ≠ "__name__" → mb x = bootBuiltins x) (hl : s₁.heap.NoLimit) (hg : s₁.gens = #[])
    (ha : s₁.heap.get? a = some { cls := .type "list", data := .seq vs.toArray }) (hi : IntsAre vs ns) (hn : ns.length ≤ n) (hz : ns.length ≤ sizeLine) (hbits : ∀ z ∈ ns, Builtin.Int.intBits z ≤ 1048576) (hr : Room k callerA)
    (F : ∀ base : Heap, K.In base → base.Ns mainGlobals mg → FnG P w K mg base k fa fd [x] (spD P w K (lawP n))) (hd : ∀ (s : Shared) (u : Value), BindsTo s fd ⟨[u], []⟩ [(x, u)]) :
    codeAny (model P w) callerA (.call (.ref fa) ⟨[.ref a], []⟩) (fun r s' => r = .ok (.ret (.bool true)) ∧ OldK s₁.heap s'.heap ∧ s'.os = s₁.os ∧ AllBare s'.gens) s₁ := by
  generalize eH : headH K a vs ns = H
  have rv : Vals (ns.map V.int) vs := vals_ints hi
  have look : ∀ {b : Addr} {o : HO}, H b = some o → b = a ∧ K.lookup a = none ∧ o = .frz { cls := .type "list", data := .seq vs.toArray } (.lst (ns.map V.int)) := fun q => headH_at (eH ▸ q)
  have ok : HOk P w H s₁.heap := fun b o q => by
    obtain ⟨rfl, _, rfl⟩ := look q
    exact ⟨ha, by rw [List.length_map]; exact hz, vs, _, rv, ha⟩
  have off : ∀ {b : Addr} {o : Obj}, s₁.heap.get? b = some o → (b = a → K.lookup a ≠ none) → (hidT s₁.heap H).get? b = some o := fun {b o} e ne => hidT_get e (by
    cases q : H b with
    | none => rfl
    | some u => exact absurd (look q).2.1 (ne (look q).1))
  have space : ∀ {b : Addr} {m : Str → Option Value}, s₁.heap.Ns b m → (hidT s₁.heap H).Ns b m := fun {b m} z => by
    obtain ⟨o, es, ep, e, d, r⟩ := z
    refine ⟨o, es, ep, off e (fun q => ?_), d, r⟩
    rw [q, ha] at e
    cases e
    cases d
  have hKb : K.In (hidT s₁.heap H) := fun b o e => off (hK b o e) fun q z => by rw [q, z] at e; cases e
  have env : Env0 P w K mg (hidT s₁.heap H) callerA [] s₁ H := {
    frames := rfl
    mod := ⟨hKb, space hm, ⟨mb, space hb, hbb⟩, by obtain ⟨mc, h1, h2⟩ := hl; exact ⟨mc, space h1, h2⟩⟩
    bs := fun b o e => of_hidT e
    bsz := Nat.le_of_eq (hidT_size _ _)
    funs := trivial
    frf := fun b z => absurd z List.not_mem_nil
    hok := ok
    bare := .of_eq hg }
  have arg : AR K H (.ref a) (.s ns) := by
    refine ⟨a, rfl, ?_⟩
    cases kl : K.lookup a with
    | none =>
      refine .inl ⟨{ cls := .type "list", data := .seq vs.toArray }, ?_⟩
      rw [← eH]
      exact if_pos ⟨rfl, kl⟩
    | some o =>
      have e := hK a o kl
      rw [ha] at e
      obtain rfl := Option.some.inj e
      exact .inr ⟨_, vs.toArray, _, rfl, rfl, rfl, rfl, by rw [List.size_toArray, hi.length]; exact hz, by simpa using rv⟩
  have go := (F _ hKb (space hm)).run callerA [] s₁ H ⟨[.ref a], []⟩ [.ref a] [.ref a] (fun v _ => v = .bl true) E0 guards_caller hr env (hd s₁ (.ref a)) (.cons rfl .nil)
    ⟨[.s ns], [], fun z m' => z = .d (.bl true), .cons arg .nil, fun _ q => absurd q List.not_mem_nil, List.nodup_nil, ⟨ns, rfl, rfl, hn, hbits, rfl⟩, fun z m' v H' q _ hv => by subst q; exact hv.bl⟩
  refine codeAny_mono go fun r s' q => ?_
  match r, q with
  | .error _, q => exact q.elim
  | .ok .next, q => exact q.elim
  | .ok .brk, q => exact q.elim
  | .ok .cont, q => exact q.elim
  | .ok (.ret u), ⟨v, H', os, bare, un, hok', ru, hv⟩ =>
    have hv' : v = .bl true := hv
    rw [hv'] at ru
    obtain rfl : u = .bool true := ru
    refine ⟨rfl, OldK.of_keep fun b o e => ?_, os, bare⟩
    cases q : H b with
    | none => exact un.keep b o e q List.not_mem_nil List.not_mem_nil
    | some u =>
      obtain ⟨rfl, _, rfl⟩ := look q
      have e2 := (hok' _ _ (un.frzs b _ _ q)).1
      rw [ha] at e
      rw [← e]
      exact e2
end
theorem walk_ofG {l : PySem.W.OpenLaw} {n k : Nat} {q : Program} {loose : List Str} {XP : (Str → Option Value) → Heap → Prop} {YP : World → Heap → Prop} {d : DefRec} {K : Params → PySem.W.Frag} {x : Str}
    (hn : l.most = some n) (hn2 : n ≤ sizeLine) (hdf : d.params.defaults = []) (hr : Room k callerA) (hY : ∀ (w : World) (h : Heap), YP w h → (K w.params).In h)
    (F : ∀ (w : World) (mg : Str → Option Value) (fa : Addr) (h : Heap), (K w.params).In h → h.Ns mainGlobals mg → mg d.name = some (.ref fa) →
      ∃ fd : FuncData, (∀ (s : Shared) (u : Value), BindsTo s fd ⟨[u], []⟩ [(x, u)]) ∧ ∀ base : Heap, (K w.params).In base → base.Ns mainGlobals mg → FnG l.prog w (K w.params) mg base k fa fd [x] (spD l.prog w (K w.params) (lawP n))) :
    PySem.W.WalkO q loose XP YP l.row.toRowW d [] (fun f vs => PySem.call f vs) := by
  refine Att.attach_callB hn hdf fun w s₀ s₁ mg mb fa o pm cd doc a vs ns G Y ho hd hcd hmg hobj hints hlen hbits hg => ?_
  obtain ⟨fd, hb, hF⟩ := F w mg fa _ (hY w _ Y) G.T.g hmg
  exact head_run (hY w _ Y) G.T.g G.T.b G.T.builtins G.T.nolimit hg hobj hints hlen (Nat.le_trans hlen hn2) hbits hr hF hb
end Dl

/-! the data of the text; what a reading does, by hand-made steps -/
namespace Dl
open PySem PySem.Spec L2
/-! ### less is known -/
def LeR : List (Option Arg) → List (Option Arg) → Prop
  | [], [] => True
  | none :: a, _ :: b => LeR a b
  | some x :: a, y :: b => y = some x ∧ LeR a b
  | _, _ => False
theorem LeR.get : ∀ {a b : List (Option Arg)}, LeR a b → ∀ (i : Nat) (x : Arg), a[i]? = some (some x) → b[i]? = some (some x)
  | [], [], _, i, x, h => by simp at h
  | none :: a, y :: b, h, 0, x, e => by simp at e
  | none :: a, y :: b, h, i + 1, x, e => by
    have e' : a[i]? = some (some x) := by simpa using e
    simpa using LeR.get (show LeR a b from h) i x e'
  | some z :: a, y :: b, h, 0, x, e => by
    have e' : z = x := by simpa using e
    have h' : y = some z := h.1
    simp [h', e']
  | some z :: a, y :: b, h, i + 1, x, e => by
    have e' : a[i]? = some (some x) := by simpa using e
    simpa using LeR.get (show LeR a b from h.2) i x e'
  | [], _ :: _, h, _, _, _ => h.elim
  | none :: _, [], h, _, _, _ => h.elim
  | some _ :: _, [], h, _, _, _ => h.elim
theorem LeR.len : ∀ {a b : List (Option Arg)}, LeR a b → a.length = b.length
  | [], [], _ => rfl
  | none :: a, y :: b, h => by simp [LeR.len (show LeR a b from h)]
  | some z :: a, y :: b, h => by simp [LeR.len (show LeR a b from h.2)]
  | [], _ :: _, h => h.elim
  | none :: _, [], h => h.elim
  | some _ :: _, [], h => h.elim
theorem le_mk {S S' : Sy} (h : LeR S'.r S.r) (m : S'.m.Sublist S.m) : Le S' S := ⟨h.get, h.len, m⟩
theorem len_le {n : Nat} (h : n.ble 1000000 = true) : n ≤ 1000000 := Nat.le_of_ble_eq_true h
theorem sub_pre {α : Type} {l l' : List α} (h : l <+: l') : l.Sublist l' := h.sublist
/-! ### data -/
open Km in
section
abbrev dN (n : Nat) : D := .int n
abbrev dNs (l : List Nat) : D := .tup (l.map dN)
abbrev dF (f : Frc) : D := .tup [.int f.1, .int f.2]
abbrev dTie (t : Tie) : D := .tup [dN t.a, dN t.b, dF t.c, dN t.w]
abbrev dW (W : Web) : D := .tup [dN W.things, .tup (W.ties.map dTie), dNs W.pat, dN W.asks]
abbrev dS (s : Stand) : D := .tup [dNs s.1, dNs s.2]
abbrev dP (p : Nat × Bool) : D := .tup [dN p.1, .bl p.2]
abbrev dKn (k : Known) : D := .tup (k.map dP)
abbrev dV (s : Wide) : D := .tup [dNs s.1, dNs s.2.1, dKn s.2.2]
abbrev dG (G : Groups) : D := .tup (G.map dNs)
abbrev dBs (l : List Bool) : D := .tup (l.map D.bl)
abbrev dNode (n : Node) : D := .tup [dN n.1, .int n.2.1, .int n.2.2]
abbrev dNothing : D := dF (0, 1)
abbrev dFirst : D := dS ([], [])
abbrev dFirstW : D := dV ([], [], [])
end
theorem no_first : dFirst = .tup [.tup [], .tup []] := rfl
/-! ### the tuple targets with written numbers -/
section
variable {B : Bs} {S : Sy} {FI : Nat → List Nat → (Sy → Prop) → (Nat → Sy → Sy) → Sy → Prop}
theorem wg_tup2 {i j : Nat} {x y : D} {F : Sy → Prop} (k : F { S with r := (S.r.set i (some (.d x))).set j (some (.d y)) }) : WG B (gTup B.K 2 (gCons (gName i) (gCons (gName j) gNil))) (.d (.tup [x, y])) S F := wg_tup (is := [i, j]) (ds := [x, y]) rfl k
theorem wg_tup3 {i j l : Nat} {x y z : D} {F : Sy → Prop} (k : F { S with r := ((S.r.set i (some (.d x))).set j (some (.d y))).set l (some (.d z)) }) : WG B (gTup B.K 3 (gCons (gName i) (gCons (gName j) (gCons (gName l) gNil)))) (.d (.tup [x, y, z])) S F := wg_tup (is := [i, j, l]) (ds := [x, y, z]) rfl k
end
/-! ### calls that lay nothing new for us -/
theorem wx_callP {B : Bs} {S : Sy} {F : Arg → Sy → Prop} {A : Prom} {E : XK} {t : TA} (h : WA B t S fun as S1 => A as [] fun x m' => m' = [] ∧ F x S1) : WX B (tCall (spD B.P B.w B.K A) [] E t) S F := fun σ H st Q q =>
  h σ H st _ fun as S1 vs H1 f1 st1 t1 a1 => by
    refine ⟨as, [], _, by rw [List.append_nil]; exact a1, fun _ h => by simp at h, by simp, f1, fun x m' v H' f2 b2 a2 => ?_⟩
    have e : Ext H1 H' := fun a o h => b2.fr a o h fun _ h => by simp at h
    exact q x S1 v H' f2.2 (st1.ext e) (t1.trans e.t) a2
/-! ### small helps -/
theorem map0 : ([] : List Arg) = List.map Arg.d [] := rfl
theorem map1 {a : D} : [Arg.d a] = List.map Arg.d [a] := rfl
theorem map2 {a b : D} : [Arg.d a, Arg.d b] = List.map Arg.d [a, b] := rfl
theorem map3 {a b c : D} : [Arg.d a, Arg.d b, Arg.d c] = List.map Arg.d [a, b, c] := rfl
theorem map4 {a b c d : D} : [Arg.d a, Arg.d b, Arg.d c, Arg.d d] = List.map Arg.d [a, b, c, d] := rfl
theorem len0 : ([] : List D).length ≤ 1000000 := len_le rfl
theorem len1 {a : D} : [a].length ≤ 1000000 := len_le rfl
theorem len2 {a b : D} : [a, b].length ≤ 1000000 := len_le rfl
theorem len3 {a b c : D} : [a, b, c].length ≤ 1000000 := len_le rfl
theorem len4 {a b c d : D} : [a, b, c, d].length ≤ 1000000 := len_le rfl
theorem wx_lst0 {B : Bs} {S : Sy} {F : Arg → Sy → Prop} (k : ∀ p, F (.a p) { S with m := S.m ++ [(p, .lst [], true)] }) : WX B (tLst tNil) S F := wx_lst (wa_nil ⟨Nat.zero_le _, k⟩)
end Dl

/-! the text of the law -/
namespace Dl
open PySem PySem.Spec L2
def topS (i : Nat) : Stmt := PySem.Challenge.pw_askedpairs_k75_whole_best_together.main.body.getD i (.Pass ⟨0, 0, 0, 0⟩)
abbrev s_divisor_of : Stmt := topS 5
abbrev N_divisor_of : List Str := ["one", "other"]
theorem sc_divisor_of : FnScope N_divisor_of ["one", "other"] (defScope s_divisor_of) := ⟨rfl, rfl, rfl, by decide +kernel, rfl, by decide +kernel, by decide +kernel⟩
abbrev s_lowest : Stmt := topS 6
abbrev N_lowest : List Str := ["top", "bottom", "by"]
theorem sc_lowest : FnScope N_lowest ["top", "bottom"] (defScope s_lowest) := ⟨rfl, rfl, rfl, by decide +kernel, rfl, by decide +kernel, by decide +kernel⟩
abbrev s_plus : Stmt := topS 7
abbrev N_plus : List Str := ["one", "other"]
theorem sc_plus : FnScope N_plus ["one", "other"] (defScope s_plus) := ⟨rfl, rfl, rfl, by decide +kernel, rfl, by decide +kernel, by decide +kernel⟩
abbrev s_times : Stmt := topS 8
abbrev N_times : List Str := ["one", "other"]
theorem sc_times : FnScope N_times ["one", "other"] (defScope s_times) := ⟨rfl, rfl, rfl, by decide +kernel, rfl, by decide +kernel, by decide +kernel⟩
abbrev s_less : Stmt := topS 9
abbrev N_less : List Str := ["one", "other"]
theorem sc_less : FnScope N_less ["one", "other"] (defScope s_less) := ⟨rfl, rfl, rfl, by decide +kernel, rfl, by decide +kernel, by decide +kernel⟩
abbrev s_rest : Stmt := topS 10
abbrev N_rest : List Str := ["one"]
theorem sc_rest : FnScope N_rest ["one"] (defScope s_rest) := ⟨rfl, rfl, rfl, by decide +kernel, rfl, by decide +kernel, by decide +kernel⟩
abbrev s_average : Stmt := topS 11
abbrev N_average : List Str := ["chance", "worth", "yes", "no", "kept"]
theorem sc_average : FnScope N_average ["chance", "worth", "yes", "no"] (defScope s_average) := ⟨rfl, rfl, rfl, by decide +kernel, rfl, by decide +kernel, by decide +kernel⟩
abbrev s_ends_of : Stmt := topS 13
abbrev N_ends_of : List Str := ["web", "tie"]
theorem sc_ends_of : FnScope N_ends_of ["web", "tie"] (defScope s_ends_of) := ⟨rfl, rfl, rfl, by decide +kernel, rfl, by decide +kernel, by decide +kernel⟩
abbrev s_chance_in : Stmt := topS 14
abbrev N_chance_in : List Str := ["web", "tie"]
theorem sc_chance_in : FnScope N_chance_in ["web", "tie"] (defScope s_chance_in) := ⟨rfl, rfl, rfl, by decide +kernel, rfl, by decide +kernel, by decide +kernel⟩
abbrev s_worth_in : Stmt := topS 15
abbrev N_worth_in : List Str := ["web", "tie"]
theorem sc_worth_in : FnScope N_worth_in ["web", "tie"] (defScope s_worth_in) := ⟨rfl, rfl, rfl, by decide +kernel, rfl, by decide +kernel, by decide +kernel⟩
abbrev s_times_asked : Stmt := topS 18
abbrev N_times_asked : List Str := ["web", "asked", "thing", "tie"]
theorem sc_times_asked : FnScope N_times_asked ["web", "asked", "thing"] (defScope s_times_asked) := ⟨rfl, rfl, rfl, by decide +kernel, rfl, by decide +kernel, by decide +kernel⟩
abbrev s_may_ask : Stmt := topS 19
abbrev N_may_ask : List Str := ["web", "stand", "tie", "asked", "taken", "thing"]
theorem sc_may_ask : FnScope N_may_ask ["web", "stand", "tie"] (defScope s_may_ask) := ⟨rfl, rfl, rfl, by decide +kernel, rfl, by decide +kernel, by decide +kernel⟩
abbrev s_askable : Stmt := topS 20
abbrev N_askable : List Str := ["web", "stand", "tie"]
theorem sc_askable : FnScope N_askable ["web", "stand"] (defScope s_askable) := ⟨rfl, rfl, rfl, by decide +kernel, rfl, by decide +kernel, by decide +kernel⟩
abbrev s_stand_behind : Stmt := topS 21
abbrev N_stand_behind : List Str := ["web", "stand", "tie", "truth", "asked", "taken"]
theorem sc_stand_behind : FnScope N_stand_behind ["web", "stand", "tie", "truth"] (defScope s_stand_behind) := ⟨rfl, rfl, rfl, by decide +kernel, rfl, by decide +kernel, by decide +kernel⟩
abbrev s_group_of : Stmt := topS 23
abbrev N_group_of : List Str := ["groups", "tie", "number", "group"]
theorem sc_group_of : FnScope N_group_of ["groups", "tie"] (defScope s_group_of) := ⟨rfl, rfl, rfl, by decide +kernel, rfl, by decide +kernel, by decide +kernel⟩
abbrev s_truths_of : Stmt := topS 27
abbrev N_truths_of : List Str := ["groups", "wide", "tie", "told", "group", "truth"]
theorem sc_truths_of : FnScope N_truths_of ["groups", "wide", "tie"] (defScope s_truths_of) := ⟨rfl, rfl, rfl, by decide +kernel, rfl, by decide +kernel, by decide +kernel⟩
abbrev s_wide_behind : Stmt := topS 28
abbrev N_wide_behind : List Str := ["web", "groups", "wide", "tie", "truth", "group", "known", "pair"]
theorem sc_wide_behind : FnScope N_wide_behind ["web", "groups", "wide", "tie", "truth"] (defScope s_wide_behind) := ⟨rfl, rfl, rfl, by decide +kernel, rfl, by decide +kernel, by decide +kernel⟩
abbrev s_wide_ask_worth : Stmt := topS 29
abbrev N_wide_ask_worth : List Str := ["web", "groups", "worths", "wide", "tie", "truths", "behind", "truth", "stand"]
theorem sc_wide_ask_worth : FnScope N_wide_ask_worth ["web", "groups", "worths", "wide", "tie"] (defScope s_wide_ask_worth) := ⟨rfl, rfl, rfl, by decide +kernel, rfl, by decide +kernel, by decide +kernel⟩
abbrev s_all_wide : Stmt := topS 30
abbrev N_all_wide : List Str := ["web", "groups", "found", "known", "at", "tie", "truth", "wide"]
theorem sc_all_wide : FnScope N_all_wide ["web", "groups"] (defScope s_all_wide) := ⟨rfl, rfl, rfl, by decide +kernel, rfl, by decide +kernel, by decide +kernel⟩
abbrev s_together_table : Stmt := topS 31
abbrev N_together_table : List Str := ["web", "groups", "worths", "rows", "wide", "worth", "ask", "tie", "found"]
theorem sc_together_table : FnScope N_together_table ["web", "groups"] (defScope s_together_table) := ⟨rfl, rfl, rfl, by decide +kernel, rfl, by decide +kernel, by decide +kernel⟩
abbrev s_ask_worth : Stmt := topS 33
abbrev N_ask_worth : List Str := ["web", "worths", "stand", "tie", "yes", "no"]
theorem sc_ask_worth : FnScope N_ask_worth ["web", "worths", "stand", "tie"] (defScope s_ask_worth) := ⟨rfl, rfl, rfl, by decide +kernel, rfl, by decide +kernel, by decide +kernel⟩
abbrev s_stands_behind : Stmt := topS 36
abbrev N_stands_behind : List Str := ["web", "stand", "found", "tie"]
theorem sc_stands_behind : FnScope N_stands_behind ["web", "stand"] (defScope s_stands_behind) := ⟨rfl, rfl, rfl, by decide +kernel, rfl, by decide +kernel, by decide +kernel⟩
abbrev s_all_stands : Stmt := topS 37
abbrev N_all_stands : List Str := ["web", "found", "known", "at", "stand"]
theorem sc_all_stands : FnScope N_all_stands ["web"] (defScope s_all_stands) := ⟨rfl, rfl, rfl, by decide +kernel, rfl, by decide +kernel, by decide +kernel⟩
abbrev s_best_ask : Stmt := topS 38
abbrev N_best_ask : List Str := ["web", "worths", "stand", "worth", "ask", "tie", "found"]
theorem sc_best_ask : FnScope N_best_ask ["web", "worths", "stand"] (defScope s_best_ask) := ⟨rfl, rfl, rfl, by decide +kernel, rfl, by decide +kernel, by decide +kernel⟩
abbrev s_table_of : Stmt := topS 39
abbrev N_table_of : List Str := ["web", "worths", "rows", "stand", "worth", "ask"]
theorem sc_table_of : FnScope N_table_of ["web"] (defScope s_table_of) := ⟨rfl, rfl, rfl, by decide +kernel, rfl, by decide +kernel, by decide +kernel⟩
abbrev s_best_worth : Stmt := topS 40
abbrev N_best_worth : List Str := ["web"]
theorem sc_best_worth : FnScope N_best_worth ["web"] (defScope s_best_worth) := ⟨rfl, rfl, rfl, by decide +kernel, rfl, by decide +kernel, by decide +kernel⟩
abbrev s__law_mixed : Stmt := topS 42
abbrev N__law_mixed : List Str := ["_law_cell", "_law_k", "_law_number"]
theorem sc__law_mixed : FnScope N__law_mixed ["_law_cell", "_law_k"] (defScope s__law_mixed) := ⟨rfl, rfl, rfl, by decide +kernel, rfl, by decide +kernel, by decide +kernel⟩
abbrev s__law_draws : Stmt := topS 43
abbrev N__law_draws : List Str := ["_law_script", "_law_drawn", "_law_k", "_law_cell", "_law_j"]
theorem sc__law_draws : FnScope N__law_draws ["_law_script"] (defScope s__law_draws) := ⟨rfl, rfl, rfl, by decide +kernel, rfl, by decide +kernel, by decide +kernel⟩
abbrev s__law_next : Stmt := topS 44
abbrev N__law_next : List Str := ["_law_drawn"]
theorem sc__law_next : FnScope N__law_next ["_law_drawn"] (defScope s__law_next) := ⟨rfl, rfl, rfl, by decide +kernel, rfl, by decide +kernel, by decide +kernel⟩
abbrev s__law_gcd : Stmt := topS 45
abbrev N__law_gcd : List Str := ["_law_one", "_law_other"]
theorem sc__law_gcd : FnScope N__law_gcd ["_law_one", "_law_other"] (defScope s__law_gcd) := ⟨rfl, rfl, rfl, by decide +kernel, rfl, by decide +kernel, by decide +kernel⟩
abbrev s__law_low : Stmt := topS 46
abbrev N__law_low : List Str := ["_law_top", "_law_bottom", "_law_common"]
theorem sc__law_low : FnScope N__law_low ["_law_top", "_law_bottom"] (defScope s__law_low) := ⟨rfl, rfl, rfl, by decide +kernel, rfl, by decide +kernel, by decide +kernel⟩
abbrev s__law_plus : Stmt := topS 47
abbrev N__law_plus : List Str := ["_law_one", "_law_other"]
theorem sc__law_plus : FnScope N__law_plus ["_law_one", "_law_other"] (defScope s__law_plus) := ⟨rfl, rfl, rfl, by decide +kernel, rfl, by decide +kernel, by decide +kernel⟩
abbrev s__law_times : Stmt := topS 48
abbrev N__law_times : List Str := ["_law_one", "_law_other"]
theorem sc__law_times : FnScope N__law_times ["_law_one", "_law_other"] (defScope s__law_times) := ⟨rfl, rfl, rfl, by decide +kernel, rfl, by decide +kernel, by decide +kernel⟩
abbrev s__law_rest : Stmt := topS 49
abbrev N__law_rest : List Str := ["_law_one"]
theorem sc__law_rest : FnScope N__law_rest ["_law_one"] (defScope s__law_rest) := ⟨rfl, rfl, rfl, by decide +kernel, rfl, by decide +kernel, by decide +kernel⟩
abbrev s__law_less : Stmt := topS 50
abbrev N__law_less : List Str := ["_law_one", "_law_other"]
theorem sc__law_less : FnScope N__law_less ["_law_one", "_law_other"] (defScope s__law_less) := ⟨rfl, rfl, rfl, by decide +kernel, rfl, by decide +kernel, by decide +kernel⟩
abbrev s__law_same : Stmt := topS 51
abbrev N__law_same : List Str := ["_law_found", "_law_due"]
theorem sc__law_same : FnScope N__law_same ["_law_found", "_law_due"] (defScope s__law_same) := ⟨rfl, rfl, rfl, by decide +kernel, rfl, by decide +kernel, by decide +kernel⟩
abbrev s__law_chance : Stmt := topS 52
abbrev N__law_chance : List Str := ["_law_number", "_law_kind", "_law_bottom"]
theorem sc__law_chance : FnScope N__law_chance ["_law_number", "_law_kind"] (defScope s__law_chance) := ⟨rfl, rfl, rfl, by decide +kernel, rfl, by decide +kernel, by decide +kernel⟩
abbrev s__law_worth : Stmt := topS 53
abbrev N__law_worth : List Str := ["_law_number", "_law_kind"]
theorem sc__law_worth : FnScope N__law_worth ["_law_number", "_law_kind"] (defScope s__law_worth) := ⟨rfl, rfl, rfl, by decide +kernel, rfl, by decide +kernel, by decide +kernel⟩
abbrev s__law_ties : Stmt := topS 54
abbrev N__law_ties : List Str := ["_law_drawn", "_law_things", "_law_many", "_law_shape", "_law_odds", "_law_worths", "_law_found", "_law_k", "_law_number", "_law_one", "_law_other", "_law_cell", "_law_ends"]
theorem sc__law_ties : FnScope N__law_ties ["_law_drawn", "_law_things", "_law_many"] (defScope s__law_ties) := ⟨rfl, rfl, rfl, by decide +kernel, rfl, by decide +kernel, by decide +kernel⟩
abbrev s__law_web : Stmt := topS 55
abbrev N__law_web : List Str := ["_law_drawn", "_law_most", "_law_ties_here", "_law_things", "_law_many", "_law_rows", "_law_way", "_law_patience", "_law_k", "_law_asks"]
theorem sc__law_web : FnScope N__law_web ["_law_drawn", "_law_most", "_law_ties_here"] (defScope s__law_web) := ⟨rfl, rfl, rfl, by decide +kernel, rfl, by decide +kernel, by decide +kernel⟩
abbrev s__law_asks_of : Stmt := topS 56
abbrev N__law_asks_of : List Str := ["_law_web_here", "_law_asked", "_law_thing", "_law_tie"]
theorem sc__law_asks_of : FnScope N__law_asks_of ["_law_web_here", "_law_asked", "_law_thing"] (defScope s__law_asks_of) := ⟨rfl, rfl, rfl, by decide +kernel, rfl, by decide +kernel, by decide +kernel⟩
abbrev s__law_may : Stmt := topS 57
abbrev N__law_may : List Str := ["_law_web_here", "_law_stand", "_law_tie", "_law_asked", "_law_taken", "_law_thing"]
theorem sc__law_may : FnScope N__law_may ["_law_web_here", "_law_stand", "_law_tie"] (defScope s__law_may) := ⟨rfl, rfl, rfl, by decide +kernel, rfl, by decide +kernel, by decide +kernel⟩
abbrev s__law_behind : Stmt := topS 58
abbrev N__law_behind : List Str := ["_law_web_here", "_law_stand", "_law_tie", "_law_truth", "_law_asked", "_law_taken", "_law_more"]
theorem sc__law_behind : FnScope N__law_behind ["_law_web_here", "_law_stand", "_law_tie", "_law_truth"] (defScope s__law_behind) := ⟨rfl, rfl, rfl, by decide +kernel, rfl, by decide +kernel, by decide +kernel⟩
abbrev s__law_askable : Stmt := topS 59
abbrev N__law_askable : List Str := ["_law_web_here", "_law_stand", "_law_tie"]
theorem sc__law_askable : FnScope N__law_askable ["_law_web_here", "_law_stand"] (defScope s__law_askable) := ⟨rfl, rfl, rfl, by decide +kernel, rfl, by decide +kernel, by decide +kernel⟩
abbrev s__law_grown : Stmt := topS 60
abbrev N__law_grown : List Str := ["_law_drawn", "_law_web_here", "_law_most", "_law_nodes", "_law_waiting", "_law_stand", "_law_parent", "_law_side", "_law_some", "_law_number", "_law_tie", "_law_node"]
theorem sc__law_grown : FnScope N__law_grown ["_law_drawn", "_law_web_here", "_law_most"] (defScope s__law_grown) := ⟨rfl, rfl, rfl, by decide +kernel, rfl, by decide +kernel, by decide +kernel⟩
abbrev s__law_all_answers : Stmt := topS 61
abbrev N__law_all_answers : List Str := ["_law_many", "_law_rows", "_law_k", "_law_row"]
theorem sc__law_all_answers : FnScope N__law_all_answers ["_law_many"] (defScope s__law_all_answers) := ⟨rfl, rfl, rfl, by decide +kernel, rfl, by decide +kernel, by decide +kernel⟩
abbrev s__law_run_tree : Stmt := topS 62
abbrev N__law_run_tree : List Str := ["_law_tree", "_law_answers", "_law_run", "_law_at", "_law_tie", "_law_yes", "_law_no"]
theorem sc__law_run_tree : FnScope N__law_run_tree ["_law_tree", "_law_answers"] (defScope s__law_run_tree) := ⟨rfl, rfl, rfl, by decide +kernel, rfl, by decide +kernel, by decide +kernel⟩
abbrev s__law_kept : Stmt := topS 63
abbrev N__law_kept : List Str := ["_law_web_here", "_law_run", "_law_tie", "_law_truth"]
theorem sc__law_kept : FnScope N__law_kept ["_law_web_here", "_law_run"] (defScope s__law_kept) := ⟨rfl, rfl, rfl, by decide +kernel, rfl, by decide +kernel, by decide +kernel⟩
abbrev s__law_best : Stmt := topS 64
abbrev N__law_best : List Str := ["_law_web_here", "_law_stand", "_law_known", "_law_best_here", "_law_tie", "_law_chance_here", "_law_worth_here", "_law_yes", "_law_no", "_law_value"]
theorem sc__law_best : FnScope N__law_best ["_law_web_here", "_law_stand", "_law_known"] (defScope s__law_best) := ⟨rfl, rfl, rfl, by decide +kernel, rfl, by decide +kernel, by decide +kernel⟩
abbrev s__law_grouped : Stmt := topS 65
abbrev N__law_grouped : List Str := ["_law_drawn", "_law_web_here", "_law_some", "_law_ties_here", "_law_groups", "_law_tie", "_law_row", "_law_number", "_law_own", "_law_alike", "_law_k", "_law_group"]
theorem sc__law_grouped : FnScope N__law_grouped ["_law_drawn", "_law_web_here"] (defScope s__law_grouped) := ⟨rfl, rfl, rfl, by decide +kernel, rfl, by decide +kernel, by decide +kernel⟩
abbrev s__law_group_of : Stmt := topS 66
abbrev N__law_group_of : List Str := ["_law_groups", "_law_tie", "_law_k", "_law_group"]
theorem sc__law_group_of : FnScope N__law_group_of ["_law_groups", "_law_tie"] (defScope s__law_group_of) := ⟨rfl, rfl, rfl, by decide +kernel, rfl, by decide +kernel, by decide +kernel⟩
abbrev s__law_tie_answers : Stmt := topS 67
abbrev N__law_tie_answers : List Str := ["_law_web_here", "_law_groups", "_law_answers", "_law_tie"]
theorem sc__law_tie_answers : FnScope N__law_tie_answers ["_law_web_here", "_law_groups", "_law_answers"] (defScope s__law_tie_answers) := ⟨rfl, rfl, rfl, by decide +kernel, rfl, by decide +kernel, by decide +kernel⟩
abbrev s__law_together : Stmt := topS 68
abbrev N__law_together : List Str := ["_law_web_here", "_law_groups", "_law_tree", "_law_total", "_law_answers", "_law_part", "_law_group", "_law_truth", "_law_chance_here"]
theorem sc__law_together : FnScope N__law_together ["_law_web_here", "_law_groups", "_law_tree"] (defScope s__law_together) := ⟨rfl, rfl, rfl, by decide +kernel, rfl, by decide +kernel, by decide +kernel⟩
abbrev s__law_wide_truths : Stmt := topS 69
abbrev N__law_wide_truths : List Str := ["_law_groups", "_law_wide", "_law_tie", "_law_own", "_law_said", "_law_group", "_law_truth"]
theorem sc__law_wide_truths : FnScope N__law_wide_truths ["_law_groups", "_law_wide", "_law_tie"] (defScope s__law_wide_truths) := ⟨rfl, rfl, rfl, by decide +kernel, rfl, by decide +kernel, by decide +kernel⟩
abbrev s__law_wide_behind : Stmt := topS 70
abbrev N__law_wide_behind : List Str := ["_law_web_here", "_law_groups", "_law_wide", "_law_tie", "_law_truth", "_law_own", "_law_known", "_law_pair"]
theorem sc__law_wide_behind : FnScope N__law_wide_behind ["_law_web_here", "_law_groups", "_law_wide", "_law_tie", "_law_truth"] (defScope s__law_wide_behind) := ⟨rfl, rfl, rfl, by decide +kernel, rfl, by decide +kernel, by decide +kernel⟩
abbrev s__law_wide_worth : Stmt := topS 71
abbrev N__law_wide_worth : List Str := ["_law_web_here", "_law_groups", "_law_worths", "_law_wide", "_law_tie", "_law_values", "_law_truth", "_law_behind_here", "_law_chance_here"]
theorem sc__law_wide_worth : FnScope N__law_wide_worth ["_law_web_here", "_law_groups", "_law_worths", "_law_wide", "_law_tie"] (defScope s__law_wide_worth) := ⟨rfl, rfl, rfl, by decide +kernel, rfl, by decide +kernel, by decide +kernel⟩
abbrev s__law_wide_stands : Stmt := topS 72
abbrev N__law_wide_stands : List Str := ["_law_web_here", "_law_groups", "_law_found", "_law_at", "_law_known", "_law_tie", "_law_truth", "_law_wide"]
theorem sc__law_wide_stands : FnScope N__law_wide_stands ["_law_web_here", "_law_groups"] (defScope s__law_wide_stands) := ⟨rfl, rfl, rfl, by decide +kernel, rfl, by decide +kernel, by decide +kernel⟩
abbrev s__law_tried : Stmt := topS 73
abbrev N__law_tried : List Str := ["_law_web_here", "_law_groups", "_law_worths", "_law_wide", "_law_tie", "_law_value"]
theorem sc__law_tried : FnScope N__law_tried ["_law_web_here", "_law_groups"] (defScope s__law_tried) := ⟨rfl, rfl, rfl, by decide +kernel, rfl, by decide +kernel, by decide +kernel⟩
abbrev s_law : Stmt := topS 74
abbrev N_law : List Str := ["_law_script", "_law_drawn", "_law_most", "_law_web_here", "_law_groups", "_law_worth_here", "_law_turn", "_law_alone", "_law_tie"]
theorem sc_law : FnScope N_law ["_law_script"] (defScope s_law) := ⟨rfl, rfl, rfl, by decide +kernel, rfl, by decide +kernel, by decide +kernel⟩
structure Df (K : PySem.W.Frag) (mg : Str → Option Value) (x : Str) (st : Stmt) (ps : List Str) where
  f : Addr
  fd : FuncData
  F : Fun K x x st f fd
  g : mg x = some (.ref f)
  b : Binds K fd ps []
structure Txt (K : PySem.W.Frag) (mg : Str → Option Value) where
  divisor_of : Df K mg "divisor_of" s_divisor_of ["one", "other"]
  lowest : Df K mg "lowest" s_lowest ["top", "bottom"]
  plus : Df K mg "plus" s_plus ["one", "other"]
  times : Df K mg "times" s_times ["one", "other"]
  less : Df K mg "less" s_less ["one", "other"]
  rest : Df K mg "rest" s_rest ["one"]
  average : Df K mg "average" s_average ["chance", "worth", "yes", "no"]
  ends_of : Df K mg "ends_of" s_ends_of ["web", "tie"]
  chance_in : Df K mg "chance_in" s_chance_in ["web", "tie"]
  worth_in : Df K mg "worth_in" s_worth_in ["web", "tie"]
  times_asked : Df K mg "times_asked" s_times_asked ["web", "asked", "thing"]
  may_ask : Df K mg "may_ask" s_may_ask ["web", "stand", "tie"]
  askable : Df K mg "askable" s_askable ["web", "stand"]
  stand_behind : Df K mg "stand_behind" s_stand_behind ["web", "stand", "tie", "truth"]
  group_of : Df K mg "group_of" s_group_of ["groups", "tie"]
  truths_of : Df K mg "truths_of" s_truths_of ["groups", "wide", "tie"]
  wide_behind : Df K mg "wide_behind" s_wide_behind ["web", "groups", "wide", "tie", "truth"]
  wide_ask_worth : Df K mg "wide_ask_worth" s_wide_ask_worth ["web", "groups", "worths", "wide", "tie"]
  all_wide : Df K mg "all_wide" s_all_wide ["web", "groups"]
  together_table : Df K mg "together_table" s_together_table ["web", "groups"]
  ask_worth : Df K mg "ask_worth" s_ask_worth ["web", "worths", "stand", "tie"]
  stands_behind : Df K mg "stands_behind" s_stands_behind ["web", "stand"]
  all_stands : Df K mg "all_stands" s_all_stands ["web"]
  best_ask : Df K mg "best_ask" s_best_ask ["web", "worths", "stand"]
  table_of : Df K mg "table_of" s_table_of ["web"]
  best_worth : Df K mg "best_worth" s_best_worth ["web"]
  _law_mixed : Df K mg "_law_mixed" s__law_mixed ["_law_cell", "_law_k"]
  _law_draws : Df K mg "_law_draws" s__law_draws ["_law_script"]
  _law_next : Df K mg "_law_next" s__law_next ["_law_drawn"]
  _law_gcd : Df K mg "_law_gcd" s__law_gcd ["_law_one", "_law_other"]
  _law_low : Df K mg "_law_low" s__law_low ["_law_top", "_law_bottom"]
  _law_plus : Df K mg "_law_plus" s__law_plus ["_law_one", "_law_other"]
  _law_times : Df K mg "_law_times" s__law_times ["_law_one", "_law_other"]
  _law_rest : Df K mg "_law_rest" s__law_rest ["_law_one"]
  _law_less : Df K mg "_law_less" s__law_less ["_law_one", "_law_other"]
  _law_same : Df K mg "_law_same" s__law_same ["_law_found", "_law_due"]
  _law_chance : Df K mg "_law_chance" s__law_chance ["_law_number", "_law_kind"]
  _law_worth : Df K mg "_law_worth" s__law_worth ["_law_number", "_law_kind"]
  _law_ties : Df K mg "_law_ties" s__law_ties ["_law_drawn", "_law_things", "_law_many"]
  _law_web : Df K mg "_law_web" s__law_web ["_law_drawn", "_law_most", "_law_ties_here"]
  _law_asks_of : Df K mg "_law_asks_of" s__law_asks_of ["_law_web_here", "_law_asked", "_law_thing"]
  _law_may : Df K mg "_law_may" s__law_may ["_law_web_here", "_law_stand", "_law_tie"]
  _law_behind : Df K mg "_law_behind" s__law_behind ["_law_web_here", "_law_stand", "_law_tie", "_law_truth"]
  _law_askable : Df K mg "_law_askable" s__law_askable ["_law_web_here", "_law_stand"]
  _law_grown : Df K mg "_law_grown" s__law_grown ["_law_drawn", "_law_web_here", "_law_most"]
  _law_all_answers : Df K mg "_law_all_answers" s__law_all_answers ["_law_many"]
  _law_run_tree : Df K mg "_law_run_tree" s__law_run_tree ["_law_tree", "_law_answers"]
  _law_kept : Df K mg "_law_kept" s__law_kept ["_law_web_here", "_law_run"]
  _law_best : Df K mg "_law_best" s__law_best ["_law_web_here", "_law_stand", "_law_known"]
  _law_grouped : Df K mg "_law_grouped" s__law_grouped ["_law_drawn", "_law_web_here"]
  _law_group_of : Df K mg "_law_group_of" s__law_group_of ["_law_groups", "_law_tie"]
  _law_tie_answers : Df K mg "_law_tie_answers" s__law_tie_answers ["_law_web_here", "_law_groups", "_law_answers"]
  _law_together : Df K mg "_law_together" s__law_together ["_law_web_here", "_law_groups", "_law_tree"]
  _law_wide_truths : Df K mg "_law_wide_truths" s__law_wide_truths ["_law_groups", "_law_wide", "_law_tie"]
  _law_wide_behind : Df K mg "_law_wide_behind" s__law_wide_behind ["_law_web_here", "_law_groups", "_law_wide", "_law_tie", "_law_truth"]
  _law_wide_worth : Df K mg "_law_wide_worth" s__law_wide_worth ["_law_web_here", "_law_groups", "_law_worths", "_law_wide", "_law_tie"]
  _law_wide_stands : Df K mg "_law_wide_stands" s__law_wide_stands ["_law_web_here", "_law_groups"]
  _law_tried : Df K mg "_law_tried" s__law_tried ["_law_web_here", "_law_groups"]
  law : Df K mg "law" s_law ["_law_script"]
  abs : mg "abs" = none
  all : mg "all" = none
  enumerate : mg "enumerate" = none
  int : mg "int" = none
  len : mg "len" = none
  max : mg "max" = none
  min : mg "min" = none
  range : mg "range" = none
  repr : mg "repr" = none
  reversed : mg "reversed" = none
  sorted : mg "sorted" = none
  sum : mg "sum" = none
  tuple : mg "tuple" = none
  zip : mg "zip" = none
  aNOTHING : Addr
  NOTHING : mg "NOTHING" = some (.ref aNOTHING)
  iNOTHING : ∀ H, Im K H (.ref aNOTHING) dNothing
  aFIRST : Addr
  FIRST : mg "FIRST" = some (.ref aFIRST)
  iFIRST : ∀ H, Im K H (.ref aFIRST) dFirst
  aFIRST_WIDE : Addr
  FIRST_WIDE : mg "FIRST_WIDE" = some (.ref aFIRST_WIDE)
  iFIRST_WIDE : ∀ H, Im K H (.ref aFIRST_WIDE) dFirstW
  tMOST_TIES_together : Tok
  MOST_TIES_together : mg "MOST_TIES_together" = some (.int 6 tMOST_TIES_together)
  tMOST_TIES_tables : Tok
  MOST_TIES_tables : mg "MOST_TIES_tables" = some (.int 7 tMOST_TIES_tables)
end Dl

/-! the defs of the text: fractions -/
namespace Dl
open PySem PySem.Spec L2
set_option hygiene false in
local macro_rules | `(tactic| walk_at "dl") => `(tactic| (repeat' (first
  | with_reducible refine wx_op ?_ | with_reducible refine wx_int ?_ | with_reducible refine wx_bl ?_ | with_reducible refine wx_non ?_ | with_reducible refine wa_cons ?_ | with_reducible refine wa_nil ?_
  | ((with_reducible apply wx_var); focus exact rfl)
  | with_reducible refine wx_tup ?_ | with_reducible refine wx_cb ?_ | with_reducible refine wx_neg ?_ | with_reducible refine wx_lst0 ?_
  | with_reducible refine ws_ret ?_ | with_reducible refine ws_seq ?_ | with_reducible refine ws_asg ?_ | with_reducible refine ws_drop ?_ | with_reducible refine ws_next ?_ | with_reducible refine ws_if ?_ | with_reducible refine ws_par ?_
  | with_reducible refine wt_test ?_ | with_reducible refine wt_b ?_ | with_reducible refine wt_not ?_ | with_reducible refine wt_and ?_ | with_reducible refine wt_or ?_
  | with_reducible refine wg_name ?_ | with_reducible refine wg_tup2 ?_ | with_reducible refine wg_tup3 ?_
  | with_reducible refine wr_i0 ?_ | with_reducible refine wr_b0 ?_ | with_reducible refine wr_eqI ?_ | with_reducible refine wr_neI ?_ | with_reducible refine wr_i ?_ ?_
  | ((with_reducible apply wr_ixT); focus exact rfl)
  | with_reducible refine wc_abs ?_ | with_reducible refine wc_lenM ?_ | with_reducible refine wc_lenT ?_ | with_reducible refine wc_max2 ?_ | with_reducible refine wc_min2 ?_ | with_reducible refine wc_intB ?_
  | with_reducible refine ⟨_, rfl, ?_⟩ | with_reducible refine ⟨_, _, rfl, ?_⟩
  | with_reducible refine ⟨[_], map1, len1, ?_⟩ | with_reducible refine ⟨[_, _], map2, len2, ?_⟩ | with_reducible refine ⟨[_, _, _], map3, len3, ?_⟩ | with_reducible refine ⟨[_, _, _, _], map4, len4, ?_⟩ | with_reducible refine ⟨[], map0, len0, ?_⟩
  | with_reducible refine wx_lcT ?_ | with_reducible refine wx_lcT2 ?_ | with_reducible refine wx_lcL ?_ | with_reducible refine wx_lcR ?_ | with_reducible refine wx_lcE ?_ | with_reducible refine wx_cut2 ?_ | with_reducible refine wx_cut_2 ?_ | with_reducible refine wt_yes ?_
  | with_reducible refine wr_inN ?_ | with_reducible refine wr_inN2 ?_ | ((with_reducible apply wr_ixT); focus exact tie_at (by assumption)) | ((with_reducible apply wr_ixT); focus exact pat_at (by assumption))
  | with_reducible refine wc_tupZ ?_ | with_reducible refine wc_lenZ ?_ | with_reducible refine wc_allZ ?_ | with_reducible refine wc_sumZ ?_ | with_reducible refine wc_sortTN ?_ | with_reducible refine wc_sortLK ?_
  | ((with_reducible refine wr_catN1 ?_ ?_); focus (first | omega | skip)) | ((with_reducible refine wr_catN2 ?_ ?_); focus (first | omega | skip))
  | with_reducible refine ⟨_, _, _, rfl, ?_⟩ | with_reducible refine ⟨_, _, _, _, rfl, ?_⟩
  | with_reducible refine ⟨rfl, ?_⟩
  | assumption
  | fail)))

theorem gcd_mod (x y : Int) : Int.gcd y (x % y) = Int.gcd x y := by
  rw [Int.gcd_comm x y]
  have e : x % y = x + y * -(x / y) := by
    have := Int.emod_add_mul_ediv x y
    grind
  rw [e, Int.gcd_add_mul_left_right]
section
variable {P : Program} {w : World} {K : PySem.W.Frag} {mg : Str → Option Value} {base : Heap}
def pr_divisor_of : Prom := fun as m W => ∃ a b : Int, as = [.d (.int a), .d (.int b)] ∧ m = [] ∧ 0 ≤ b ∧ W (.d (.int (Int.gcd a b))) []
theorem len_divisor_of (as m W) (h : pr_divisor_of as m W) : as.length = 2 := by obtain ⟨_, _, rfl, _⟩ := h; rfl
theorem ok_divisor_of (T : Txt K mg)  : FnOk P w K mg base CX0 1 T.divisor_of.f T.divisor_of.fd ["one", "other"] (spD P w K pr_divisor_of) := by
  refine fnD T.divisor_of.F sc_divisor_of len_divisor_of (fun cdv Ar outer s H E hr => ⟨_, (pss_cons (ps_while PassesOwn.never (pt_cmpR op_ne (pv 1) pe_int (nomark _))
    (pss_one (ps_par (i := 0) (j := 1) (by rfl) sc_divisor_of.nd rfl rfl (by decide) rfl rfl (pa_cons (pv 1) (pa_cons (pe_op op_mod (pv 0) (pv 1)) pa_nil)) (by rfl))))
    (pss_one (ps_ret (pe_callB (show CallR _ _ rAbs from call_abs) (by rfl) T.abs PyProof.Rows.boot_abs (pa_cons (pv 0) pa_nil))))), fun as m W h => ?_⟩)
  try dsimp only [cxOf, Cx.nox, Cx.wish]
  obtain ⟨a, b, rfl, rfl, h0, q⟩ := h
  walk_at "dl"
  refine ws_while (fun n S' => ∃ x y : Int, S' = ⟨[some (.d (.int x)), some (.d (.int y))], []⟩ ∧ n = y.natAbs ∧ 0 ≤ y ∧ Int.gcd x y = Int.gcd a b) b.natAbs ⟨a, b, rfl, rfl, h0, rfl⟩ ?_
  rintro n S' ⟨x, y, rfl, rfl, h0, e⟩
  walk_at "dl"
  refine ⟨fun hc => ?_, fun hc => ?_⟩ <;> walk_at "dl"
  · have hy : y ≠ 0 := by simpa using hc
    show 0 < y
    omega
  · have hy : y ≠ 0 := by simpa using hc
    have h1 := Int.emod_nonneg x hy
    have h2 := Int.emod_lt_of_pos x (show 0 < y by omega)
    exact ⟨(x % y).natAbs, _, by omega, Le.refl _, y, x % y, rfl, rfl, h1, by rw [gcd_mod, e]⟩
  · have hy : y = 0 := by simpa using hc
    subst hy
    refine ⟨_, ?_, List.nil_sublist _⟩
    have : (if x < 0 then -x else x) = ((Int.gcd a b : Nat) : Int) := by
      rw [← e, Int.gcd_zero_right]
      split <;> omega
    rw [this]
    exact q
theorem use_divisor_of {W : Arg → List Ob → Prop} {a b : Int} (h : 0 ≤ b) (k : W (.d (.int (Int.gcd a b))) []) : pr_divisor_of [.d (.int a), .d (.int b)] [] W := ⟨a, b, rfl, rfl, h, k⟩
def pr__law_gcd : Prom := pr_divisor_of
theorem use__law_gcd {W : Arg → List Ob → Prop} {a b : Int} (h : 0 ≤ b) (k : W (.d (.int (Int.gcd a b))) []) : pr__law_gcd [.d (.int a), .d (.int b)] [] W := ⟨a, b, rfl, rfl, h, k⟩
theorem len__law_gcd (as m W) (h : pr__law_gcd as m W) : as.length = 2 := len_divisor_of as m W h
theorem ok__law_gcd (T : Txt K mg)  : FnOk P w K mg base CX0 1 T._law_gcd.f T._law_gcd.fd ["_law_one", "_law_other"] (spD P w K pr__law_gcd) := by
  refine fnD T._law_gcd.F sc__law_gcd len__law_gcd (fun cdv Ar outer s H E hr => ⟨_, (pss_cons (ps_while PassesOwn.never (pt_cmpR op_ne (pv 1) pe_int (nomark _))
    (pss_one (ps_par (i := 0) (j := 1) (by rfl) sc__law_gcd.nd rfl rfl (by decide) rfl rfl (pa_cons (pv 1) (pa_cons (pe_op op_mod (pv 0) (pv 1)) pa_nil)) (by rfl))))
    (pss_one (ps_ret (pe_callB (show CallR _ _ rAbs from call_abs) (by rfl) T.abs PyProof.Rows.boot_abs (pa_cons (pv 0) pa_nil))))), fun as m W h => ?_⟩)
  try dsimp only [cxOf, Cx.nox, Cx.wish]
  obtain ⟨a, b, rfl, rfl, h0, q⟩ := h
  walk_at "dl"
  refine ws_while (fun n S' => ∃ x y : Int, S' = ⟨[some (.d (.int x)), some (.d (.int y))], []⟩ ∧ n = y.natAbs ∧ 0 ≤ y ∧ Int.gcd x y = Int.gcd a b) b.natAbs ⟨a, b, rfl, rfl, h0, rfl⟩ ?_
  rintro n S' ⟨x, y, rfl, rfl, h0, e⟩
  walk_at "dl"
  refine ⟨fun hc => ?_, fun hc => ?_⟩ <;> walk_at "dl"
  · have hy : y ≠ 0 := by simpa using hc
    show 0 < y
    omega
  · have hy : y ≠ 0 := by simpa using hc
    have h1 := Int.emod_nonneg x hy
    have h2 := Int.emod_lt_of_pos x (show 0 < y by omega)
    exact ⟨(x % y).natAbs, _, by omega, Le.refl _, y, x % y, rfl, rfl, h1, by rw [gcd_mod, e]⟩
  · have hy : y = 0 := by simpa using hc
    subst hy
    refine ⟨_, ?_, List.nil_sublist _⟩
    have : (if x < 0 then -x else x) = ((Int.gcd a b : Nat) : Int) := by
      rw [← e, Int.gcd_zero_right]
      split <;> omega
    rw [this]
    exact q
def pr_lowest : Prom := fun as m W => ∃ a b : Int, as = [.d (.int a), .d (.int b)] ∧ m = [] ∧ 0 < b ∧ b.natAbs < 2 ^ 9000 ∧ W (.d (dF (Km.low a b))) []
theorem len_lowest (as m W) (h : pr_lowest as m W) : as.length = 2 := by obtain ⟨_, _, rfl, _⟩ := h; rfl
theorem gcd_div {a b : Int} (h0 : 0 < b) (hb : b.natAbs < 2 ^ 9000) (i : Int) : CDivW i (Int.gcd a b : Int) := by
  have h1 := Km.gcd_pos (t := a) h0
  have h2 : Int.gcd a b ≤ b.natAbs := Nat.le_of_dvd (by omega) (Int.gcd_dvd_natAbs_right a b)
  exact wide_div h1 (b := 9000) (by rw [Int.natAbs_natCast]; omega) (by decide) (Nat.le_refl _)
set_option hygiene false in
local macro_rules | `(tactic| walk_at "dl") => `(tactic| (repeat' (first
  | with_reducible refine wx_op ?_ | with_reducible refine wx_int ?_ | with_reducible refine wx_bl ?_ | with_reducible refine wx_non ?_ | with_reducible refine wa_cons ?_ | with_reducible refine wa_nil ?_
  | ((with_reducible apply wx_var); focus exact rfl)
  | with_reducible refine wx_tup ?_ | with_reducible refine wx_cb ?_ | with_reducible refine wx_neg ?_ | with_reducible refine wx_lst0 ?_
  | with_reducible refine ws_ret ?_ | with_reducible refine ws_seq ?_ | with_reducible refine ws_asg ?_ | with_reducible refine ws_drop ?_ | with_reducible refine ws_next ?_ | with_reducible refine ws_if ?_ | with_reducible refine ws_par ?_
  | with_reducible refine wt_test ?_ | with_reducible refine wt_b ?_ | with_reducible refine wt_not ?_ | with_reducible refine wt_and ?_ | with_reducible refine wt_or ?_
  | with_reducible refine wg_name ?_ | with_reducible refine wg_tup2 ?_ | with_reducible refine wg_tup3 ?_
  | with_reducible refine wr_i0 ?_ | with_reducible refine wr_b0 ?_ | with_reducible refine wr_eqI ?_ | with_reducible refine wr_neI ?_ | with_reducible refine wr_i ?_ ?_
  | ((with_reducible apply wr_ixT); focus exact rfl)
  | with_reducible refine wc_abs ?_ | with_reducible refine wc_lenM ?_ | with_reducible refine wc_lenT ?_ | with_reducible refine wc_max2 ?_ | with_reducible refine wc_min2 ?_ | with_reducible refine wc_intB ?_
  | with_reducible refine ⟨_, rfl, ?_⟩ | with_reducible refine ⟨_, _, rfl, ?_⟩
  | with_reducible refine ⟨[_], map1, len1, ?_⟩ | with_reducible refine ⟨[_, _], map2, len2, ?_⟩ | with_reducible refine ⟨[_, _, _], map3, len3, ?_⟩ | with_reducible refine ⟨[_, _, _, _], map4, len4, ?_⟩ | with_reducible refine ⟨[], map0, len0, ?_⟩
  | with_reducible refine wx_lcT ?_ | with_reducible refine wx_lcT2 ?_ | with_reducible refine wx_lcL ?_ | with_reducible refine wx_lcR ?_ | with_reducible refine wx_lcE ?_ | with_reducible refine wx_cut2 ?_ | with_reducible refine wx_cut_2 ?_ | with_reducible refine wt_yes ?_
  | with_reducible refine wr_inN ?_ | with_reducible refine wr_inN2 ?_ | ((with_reducible apply wr_ixT); focus exact tie_at (by assumption)) | ((with_reducible apply wr_ixT); focus exact pat_at (by assumption))
  | with_reducible refine wc_tupZ ?_ | with_reducible refine wc_lenZ ?_ | with_reducible refine wc_allZ ?_ | with_reducible refine wc_sumZ ?_ | with_reducible refine wc_sortTN ?_ | with_reducible refine wc_sortLK ?_
  | ((with_reducible refine wr_catN1 ?_ ?_); focus (first | omega | skip)) | ((with_reducible refine wr_catN2 ?_ ?_); focus (first | omega | skip))
  | with_reducible refine ⟨_, _, _, rfl, ?_⟩ | with_reducible refine ⟨_, _, _, _, rfl, ?_⟩
  | with_reducible refine ⟨rfl, ?_⟩
  | assumption
  | with_reducible refine wx_callP (A := pr_divisor_of) ?_ | with_reducible refine use_divisor_of ?_ ?_
  | fail)))

theorem ok_lowest (T : Txt K mg) (Gdivisor_of : FnOk P w K mg base CX0 1 T.divisor_of.f T.divisor_of.fd ["one", "other"] (spD P w K pr_divisor_of)) : FnOk P w K mg base CX0 2 T.lowest.f T.lowest.fd ["top", "bottom"] (spD P w K pr_lowest) := by
  refine fnD T.lowest.F sc_lowest len_lowest (fun cdv Ar outer s H E hr => ⟨_, (pss_cons (ps_set (i := 2) sc_lowest.nd rfl (by first | exact Or.inl rfl | exact Or.inr rfl) (pe_call Gdivisor_of (hr.mono (by decide)) rfl T.divisor_of.g T.divisor_of.F.kp T.divisor_of.b .nil pass0 (pa_cons (pv 0) (pa_cons (pv 1) pa_nil))))
    (pss_cons (ps_if (pt_cmpR op_lt (pv 1) pe_int (nomark _)) (pss_one (ps_set (i := 2) sc_lowest.nd rfl (by first | exact Or.inl rfl | exact Or.inr rfl) (pe_op op_sub pe_int (pv 2)))) pss_nil)
    (pss_one (ps_ret (pe_tup (pa_cons (pe_op op_fdivW (pv 0) (pv 2)) (pa_cons (pe_op op_fdivW (pv 1) (pv 2)) pa_nil))))))), fun as m W h => ?_⟩)
  try dsimp only [cxOf, Cx.nox, Cx.wish]
  obtain ⟨a, b, rfl, rfl, h0, hb, q⟩ := h
  walk_at "dl"
  · exact Int.le_of_lt h0
  refine ⟨fun hc => absurd (of_decide_eq_true hc) (by omega), fun hc => ?_⟩
  walk_at "dl"
  · exact gcd_div h0 hb _
  · exact gcd_div h0 hb _
  · exact ⟨_, q, List.nil_sublist _⟩
theorem use_lowest {W : Arg → List Ob → Prop} {a b : Int} (h : 0 < b) (hb : b.natAbs < 2 ^ 9000) (k : W (.d (dF (Km.low a b))) []) : pr_lowest [.d (.int a), .d (.int b)] [] W := ⟨a, b, rfl, rfl, h, hb, k⟩
def pr__law_low : Prom := pr_lowest
theorem use__law_low {W : Arg → List Ob → Prop} {a b : Int} (h : 0 < b) (hb : b.natAbs < 2 ^ 9000) (k : W (.d (dF (Km.low a b))) []) : pr__law_low [.d (.int a), .d (.int b)] [] W := ⟨a, b, rfl, rfl, h, hb, k⟩
theorem len__law_low (as m W) (h : pr__law_low as m W) : as.length = 2 := len_lowest as m W h
set_option hygiene false in
local macro_rules | `(tactic| walk_at "dl") => `(tactic| (repeat' (first
  | with_reducible refine wx_op ?_ | with_reducible refine wx_int ?_ | with_reducible refine wx_bl ?_ | with_reducible refine wx_non ?_ | with_reducible refine wa_cons ?_ | with_reducible refine wa_nil ?_
  | ((with_reducible apply wx_var); focus exact rfl)
  | with_reducible refine wx_tup ?_ | with_reducible refine wx_cb ?_ | with_reducible refine wx_neg ?_ | with_reducible refine wx_lst0 ?_
  | with_reducible refine ws_ret ?_ | with_reducible refine ws_seq ?_ | with_reducible refine ws_asg ?_ | with_reducible refine ws_drop ?_ | with_reducible refine ws_next ?_ | with_reducible refine ws_if ?_ | with_reducible refine ws_par ?_
  | with_reducible refine wt_test ?_ | with_reducible refine wt_b ?_ | with_reducible refine wt_not ?_ | with_reducible refine wt_and ?_ | with_reducible refine wt_or ?_
  | with_reducible refine wg_name ?_ | with_reducible refine wg_tup2 ?_ | with_reducible refine wg_tup3 ?_
  | with_reducible refine wr_i0 ?_ | with_reducible refine wr_b0 ?_ | with_reducible refine wr_eqI ?_ | with_reducible refine wr_neI ?_ | with_reducible refine wr_i ?_ ?_
  | ((with_reducible apply wr_ixT); focus exact rfl)
  | with_reducible refine wc_abs ?_ | with_reducible refine wc_lenM ?_ | with_reducible refine wc_lenT ?_ | with_reducible refine wc_max2 ?_ | with_reducible refine wc_min2 ?_ | with_reducible refine wc_intB ?_
  | with_reducible refine ⟨_, rfl, ?_⟩ | with_reducible refine ⟨_, _, rfl, ?_⟩
  | with_reducible refine ⟨[_], map1, len1, ?_⟩ | with_reducible refine ⟨[_, _], map2, len2, ?_⟩ | with_reducible refine ⟨[_, _, _], map3, len3, ?_⟩ | with_reducible refine ⟨[_, _, _, _], map4, len4, ?_⟩ | with_reducible refine ⟨[], map0, len0, ?_⟩
  | with_reducible refine wx_lcT ?_ | with_reducible refine wx_lcT2 ?_ | with_reducible refine wx_lcL ?_ | with_reducible refine wx_lcR ?_ | with_reducible refine wx_lcE ?_ | with_reducible refine wx_cut2 ?_ | with_reducible refine wx_cut_2 ?_ | with_reducible refine wt_yes ?_
  | with_reducible refine wr_inN ?_ | with_reducible refine wr_inN2 ?_ | ((with_reducible apply wr_ixT); focus exact tie_at (by assumption)) | ((with_reducible apply wr_ixT); focus exact pat_at (by assumption))
  | with_reducible refine wc_tupZ ?_ | with_reducible refine wc_lenZ ?_ | with_reducible refine wc_allZ ?_ | with_reducible refine wc_sumZ ?_ | with_reducible refine wc_sortTN ?_ | with_reducible refine wc_sortLK ?_
  | ((with_reducible refine wr_catN1 ?_ ?_); focus (first | omega | skip)) | ((with_reducible refine wr_catN2 ?_ ?_); focus (first | omega | skip))
  | with_reducible refine ⟨_, _, _, rfl, ?_⟩ | with_reducible refine ⟨_, _, _, _, rfl, ?_⟩
  | with_reducible refine ⟨rfl, ?_⟩
  | assumption
  | with_reducible refine wx_callP (A := pr__law_gcd) ?_ | with_reducible refine use__law_gcd ?_ ?_
  | with_reducible refine wx_callP (A := pr_lowest) ?_ | with_reducible refine use_lowest ?_ ?_ ?_
  | fail)))

theorem ok__law_low (T : Txt K mg) (G_law_gcd : FnOk P w K mg base CX0 1 T._law_gcd.f T._law_gcd.fd ["_law_one", "_law_other"] (spD P w K pr__law_gcd)) : FnOk P w K mg base CX0 2 T._law_low.f T._law_low.fd ["_law_top", "_law_bottom"] (spD P w K pr__law_low) := by
  refine fnD T._law_low.F sc__law_low len__law_low (fun cdv Ar outer s H E hr => ⟨_, (pss_cons (ps_set (i := 2) sc__law_low.nd rfl (by first | exact Or.inl rfl | exact Or.inr rfl) (pe_call G_law_gcd (hr.mono (by decide)) rfl T._law_gcd.g T._law_gcd.F.kp T._law_gcd.b .nil pass0 (pa_cons (pv 0) (pa_cons (pv 1) pa_nil))))
    (pss_one (ps_ret (pe_tup (pa_cons (pe_op op_fdivW (pv 0) (pv 2)) (pa_cons (pe_op op_fdivW (pv 1) (pv 2)) pa_nil)))))), fun as m W h => ?_⟩)
  try dsimp only [cxOf, Cx.nox, Cx.wish]
  obtain ⟨a, b, rfl, rfl, h0, hb, q⟩ := h
  walk_at "dl"
  · exact Int.le_of_lt h0
  · exact gcd_div h0 hb _
  · exact gcd_div h0 hb _
  · exact ⟨_, q, List.nil_sublist _⟩
/-- numbers of a fraction that may be worked with -/
structure Ok (p : Km.Frc) : Prop where
  pos : 0 < p.2
  bd : Km.Bd 4000 p
theorem ok_mul {i j : Int} (hi : i.natAbs < 2 ^ 4000) (hj : j.natAbs < 2 ^ 4000) : CMulW i j := wide_mul hi hj (by decide) (by decide) (by decide)
set_option exponentiation.threshold 10000 in
theorem mul_9000 {i j : Int} (hi : i.natAbs < 2 ^ 4000) (hj : j.natAbs < 2 ^ 4000) : (i * j).natAbs < 2 ^ 9000 := Km.pow_lt (Km.mul_lt hi hj) (by decide)
def pr_plus : Prom := fun as m W => ∃ p q : Km.Frc, as = [.d (dF p), .d (dF q)] ∧ m = [] ∧ Ok p ∧ Ok q ∧ W (.d (dF (Km.plus p q))) []
theorem use_plus {W : Arg → List Ob → Prop} {p q : Km.Frc} (hp : Ok p) (hq : Ok q) (k : W (.d (dF (Km.plus p q))) []) : pr_plus [.d (dF p), .d (dF q)] [] W := ⟨p, q, rfl, rfl, hp, hq, k⟩
theorem use_plus1 {W : Arg → List Ob → Prop} {a : Int} {q : Km.Frc} (hp : Ok (a, 1)) (hq : Ok q) (k : W (.d (dF (Km.plus (a, 1) q))) []) : pr_plus [.d (.tup [.int a, .int 1]), .d (dF q)] [] W := ⟨(a, 1), q, rfl, rfl, hp, hq, k⟩
theorem len_plus (as m W) (h : pr_plus as m W) : as.length = 2 := by obtain ⟨_, _, rfl, _⟩ := h; rfl
theorem ok_plus (T : Txt K mg) (Glowest : FnOk P w K mg base CX0 2 T.lowest.f T.lowest.fd ["top", "bottom"] (spD P w K pr_lowest)) : FnOk P w K mg base CX0 3 T.plus.f T.plus.fd ["one", "other"] (spD P w K pr_plus) := by
  refine fnD T.plus.F sc_plus len_plus (fun cdv Ar outer s H E hr => ⟨_, (pss_one (ps_ret (pe_call Glowest (hr.mono (by decide)) rfl T.lowest.g T.lowest.F.kp T.lowest.b .nil pass0 (pa_cons (pe_op op_add (pe_op op_mulW (pe_ix (show IxR _ (rIxT K) from ix_tup) (pv 0) pe_int (fun _ _ => rfl)) (pe_ix (show IxR _ (rIxT K) from ix_tup) (pv 1) pe_int (fun _ _ => rfl))) (pe_op op_mulW (pe_ix (show IxR _ (rIxT K) from ix_tup) (pv 1) pe_int (fun _ _ => rfl)) (pe_ix (show IxR _ (rIxT K) from ix_tup) (pv 0) pe_int (fun _ _ => rfl)))) (pa_cons (pe_op op_mulW (pe_ix (show IxR _ (rIxT K) from ix_tup) (pv 0) pe_int (fun _ _ => rfl)) (pe_ix (show IxR _ (rIxT K) from ix_tup) (pv 1) pe_int (fun _ _ => rfl))) pa_nil))))), fun as m W h => ?_⟩)
  try dsimp only [cxOf, Cx.nox, Cx.wish]
  obtain ⟨p, q, rfl, rfl, hp, hq, k⟩ := h
  walk_at "dl"
  · exact ok_mul hp.bd.1 hq.bd.2
  · exact ok_mul hq.bd.1 hp.bd.2
  · exact ok_mul hp.bd.2 hq.bd.2
  · exact Int.mul_pos hp.pos hq.pos
  · exact mul_9000 hp.bd.2 hq.bd.2
  · exact ⟨_, k, List.nil_sublist _⟩
def pr_times : Prom := fun as m W => ∃ p q : Km.Frc, as = [.d (dF p), .d (dF q)] ∧ m = [] ∧ Ok p ∧ Ok q ∧ W (.d (dF (Km.times p q))) []
theorem use_times {W : Arg → List Ob → Prop} {p q : Km.Frc} (hp : Ok p) (hq : Ok q) (k : W (.d (dF (Km.times p q))) []) : pr_times [.d (dF p), .d (dF q)] [] W := ⟨p, q, rfl, rfl, hp, hq, k⟩
theorem len_times (as m W) (h : pr_times as m W) : as.length = 2 := by obtain ⟨_, _, rfl, _⟩ := h; rfl
theorem ok_times (T : Txt K mg) (Glowest : FnOk P w K mg base CX0 2 T.lowest.f T.lowest.fd ["top", "bottom"] (spD P w K pr_lowest)) : FnOk P w K mg base CX0 3 T.times.f T.times.fd ["one", "other"] (spD P w K pr_times) := by
  refine fnD T.times.F sc_times len_times (fun cdv Ar outer s H E hr => ⟨_, (pss_one (ps_ret (pe_call Glowest (hr.mono (by decide)) rfl T.lowest.g T.lowest.F.kp T.lowest.b .nil pass0 (pa_cons (pe_op op_mulW (pe_ix (show IxR _ (rIxT K) from ix_tup) (pv 0) pe_int (fun _ _ => rfl)) (pe_ix (show IxR _ (rIxT K) from ix_tup) (pv 1) pe_int (fun _ _ => rfl))) (pa_cons (pe_op op_mulW (pe_ix (show IxR _ (rIxT K) from ix_tup) (pv 0) pe_int (fun _ _ => rfl)) (pe_ix (show IxR _ (rIxT K) from ix_tup) (pv 1) pe_int (fun _ _ => rfl))) pa_nil))))), fun as m W h => ?_⟩)
  try dsimp only [cxOf, Cx.nox, Cx.wish]
  obtain ⟨p, q, rfl, rfl, hp, hq, k⟩ := h
  walk_at "dl"
  · exact ok_mul hp.bd.1 hq.bd.1
  · exact ok_mul hp.bd.2 hq.bd.2
  · exact Int.mul_pos hp.pos hq.pos
  · exact mul_9000 hp.bd.2 hq.bd.2
  · exact ⟨_, k, List.nil_sublist _⟩
def pr_less : Prom := fun as m W => ∃ p q : Km.Frc, as = [.d (dF p), .d (dF q)] ∧ m = [] ∧ Ok p ∧ Ok q ∧ W (.d (.bl (Km.less p q))) []
theorem use_less {W : Arg → List Ob → Prop} {p q : Km.Frc} (hp : Ok p) (hq : Ok q) (k : W (.d (.bl (Km.less p q))) []) : pr_less [.d (dF p), .d (dF q)] [] W := ⟨p, q, rfl, rfl, hp, hq, k⟩
theorem len_less (as m W) (h : pr_less as m W) : as.length = 2 := by obtain ⟨_, _, rfl, _⟩ := h; rfl
theorem ok_less (T : Txt K mg)  : FnOk P w K mg base CX0 1 T.less.f T.less.fd ["one", "other"] (spD P w K pr_less) := by
  refine fnD T.less.F sc_less len_less (fun cdv Ar outer s H E hr => ⟨_, (pss_one (ps_ret (pe_cmpR op_lt (pe_op op_mulW (pe_ix (show IxR _ (rIxT K) from ix_tup) (pv 0) pe_int (fun _ _ => rfl)) (pe_ix (show IxR _ (rIxT K) from ix_tup) (pv 1) pe_int (fun _ _ => rfl))) (pe_op op_mulW (pe_ix (show IxR _ (rIxT K) from ix_tup) (pv 1) pe_int (fun _ _ => rfl)) (pe_ix (show IxR _ (rIxT K) from ix_tup) (pv 0) pe_int (fun _ _ => rfl))) (nomark _)))), fun as m W h => ?_⟩)
  try dsimp only [cxOf, Cx.nox, Cx.wish]
  obtain ⟨p, q, rfl, rfl, hp, hq, k⟩ := h
  walk_at "dl"
  · exact ok_mul hp.bd.1 hq.bd.2
  · exact ok_mul hq.bd.1 hp.bd.2
  · exact ⟨_, k, List.nil_sublist _⟩
def pr_rest : Prom := fun as m W => ∃ p : Km.Frc, as = [.d (dF p)] ∧ m = [] ∧ W (.d (dF (Km.rest p))) []
theorem use_rest {W : Arg → List Ob → Prop} {p : Km.Frc} (k : W (.d (dF (Km.rest p))) []) : pr_rest [.d (dF p)] [] W := ⟨p, rfl, rfl, k⟩
theorem len_rest (as m W) (h : pr_rest as m W) : as.length = 1 := by obtain ⟨_, rfl, _⟩ := h; rfl
theorem ok_rest (T : Txt K mg)  : FnOk P w K mg base CX0 1 T.rest.f T.rest.fd ["one"] (spD P w K pr_rest) := by
  refine fnD T.rest.F sc_rest len_rest (fun cdv Ar outer s H E hr => ⟨_, (pss_one (ps_ret (pe_tup (pa_cons (pe_op op_sub (pe_ix (show IxR _ (rIxT K) from ix_tup) (pv 0) pe_int (fun _ _ => rfl)) (pe_ix (show IxR _ (rIxT K) from ix_tup) (pv 0) pe_int (fun _ _ => rfl))) (pa_cons (pe_ix (show IxR _ (rIxT K) from ix_tup) (pv 0) pe_int (fun _ _ => rfl)) pa_nil))))), fun as m W h => ?_⟩)
  try dsimp only [cxOf, Cx.nox, Cx.wish]
  obtain ⟨p, rfl, rfl, k⟩ := h
  walk_at "dl"
  exact ⟨_, k, List.nil_sublist _⟩
def pr__law_plus : Prom := pr_plus
theorem use__law_plus {W : Arg → List Ob → Prop} {p q : Km.Frc} (hp : Ok p) (hq : Ok q) (k : W (.d (dF (Km.plus p q))) []) : pr__law_plus [.d (dF p), .d (dF q)] [] W := ⟨p, q, rfl, rfl, hp, hq, k⟩
theorem use__law_plus1 {W : Arg → List Ob → Prop} {a : Int} {q : Km.Frc} (hp : Ok (a, 1)) (hq : Ok q) (k : W (.d (dF (Km.plus (a, 1) q))) []) : pr__law_plus [.d (.tup [.int a, .int 1]), .d (dF q)] [] W := ⟨(a, 1), q, rfl, rfl, hp, hq, k⟩
theorem len__law_plus (as m W) (h : pr__law_plus as m W) : as.length = 2 := by obtain ⟨_, _, rfl, _⟩ := h; rfl
def pr__law_times : Prom := pr_times
theorem use__law_times {W : Arg → List Ob → Prop} {p q : Km.Frc} (hp : Ok p) (hq : Ok q) (k : W (.d (dF (Km.times p q))) []) : pr__law_times [.d (dF p), .d (dF q)] [] W := ⟨p, q, rfl, rfl, hp, hq, k⟩
theorem len__law_times (as m W) (h : pr__law_times as m W) : as.length = 2 := by obtain ⟨_, _, rfl, _⟩ := h; rfl
def pr__law_less : Prom := pr_less
theorem use__law_less {W : Arg → List Ob → Prop} {p q : Km.Frc} (hp : Ok p) (hq : Ok q) (k : W (.d (.bl (Km.less p q))) []) : pr__law_less [.d (dF p), .d (dF q)] [] W := ⟨p, q, rfl, rfl, hp, hq, k⟩
theorem len__law_less (as m W) (h : pr__law_less as m W) : as.length = 2 := by obtain ⟨_, _, rfl, _⟩ := h; rfl
def pr__law_rest : Prom := pr_rest
theorem use__law_rest {W : Arg → List Ob → Prop} {p : Km.Frc} (k : W (.d (dF (Km.rest p))) []) : pr__law_rest [.d (dF p)] [] W := ⟨p, rfl, rfl, k⟩
theorem len__law_rest (as m W) (h : pr__law_rest as m W) : as.length = 1 := by obtain ⟨_, rfl, _⟩ := h; rfl
set_option hygiene false in
local macro_rules | `(tactic| walk_at "dl") => `(tactic| (repeat' (first
  | with_reducible refine wx_op ?_ | with_reducible refine wx_int ?_ | with_reducible refine wx_bl ?_ | with_reducible refine wx_non ?_ | with_reducible refine wa_cons ?_ | with_reducible refine wa_nil ?_
  | ((with_reducible apply wx_var); focus exact rfl)
  | with_reducible refine wx_tup ?_ | with_reducible refine wx_cb ?_ | with_reducible refine wx_neg ?_ | with_reducible refine wx_lst0 ?_
  | with_reducible refine ws_ret ?_ | with_reducible refine ws_seq ?_ | with_reducible refine ws_asg ?_ | with_reducible refine ws_drop ?_ | with_reducible refine ws_next ?_ | with_reducible refine ws_if ?_ | with_reducible refine ws_par ?_
  | with_reducible refine wt_test ?_ | with_reducible refine wt_b ?_ | with_reducible refine wt_not ?_ | with_reducible refine wt_and ?_ | with_reducible refine wt_or ?_
  | with_reducible refine wg_name ?_ | with_reducible refine wg_tup2 ?_ | with_reducible refine wg_tup3 ?_
  | with_reducible refine wr_i0 ?_ | with_reducible refine wr_b0 ?_ | with_reducible refine wr_eqI ?_ | with_reducible refine wr_neI ?_ | with_reducible refine wr_i ?_ ?_
  | ((with_reducible apply wr_ixT); focus exact rfl)
  | with_reducible refine wc_abs ?_ | with_reducible refine wc_lenM ?_ | with_reducible refine wc_lenT ?_ | with_reducible refine wc_max2 ?_ | with_reducible refine wc_min2 ?_ | with_reducible refine wc_intB ?_
  | with_reducible refine ⟨_, rfl, ?_⟩ | with_reducible refine ⟨_, _, rfl, ?_⟩
  | with_reducible refine ⟨[_], map1, len1, ?_⟩ | with_reducible refine ⟨[_, _], map2, len2, ?_⟩ | with_reducible refine ⟨[_, _, _], map3, len3, ?_⟩ | with_reducible refine ⟨[_, _, _, _], map4, len4, ?_⟩ | with_reducible refine ⟨[], map0, len0, ?_⟩
  | with_reducible refine wx_lcT ?_ | with_reducible refine wx_lcT2 ?_ | with_reducible refine wx_lcL ?_ | with_reducible refine wx_lcR ?_ | with_reducible refine wx_lcE ?_ | with_reducible refine wx_cut2 ?_ | with_reducible refine wx_cut_2 ?_ | with_reducible refine wt_yes ?_
  | with_reducible refine wr_inN ?_ | with_reducible refine wr_inN2 ?_ | ((with_reducible apply wr_ixT); focus exact tie_at (by assumption)) | ((with_reducible apply wr_ixT); focus exact pat_at (by assumption))
  | with_reducible refine wc_tupZ ?_ | with_reducible refine wc_lenZ ?_ | with_reducible refine wc_allZ ?_ | with_reducible refine wc_sumZ ?_ | with_reducible refine wc_sortTN ?_ | with_reducible refine wc_sortLK ?_
  | ((with_reducible refine wr_catN1 ?_ ?_); focus (first | omega | skip)) | ((with_reducible refine wr_catN2 ?_ ?_); focus (first | omega | skip))
  | with_reducible refine ⟨_, _, _, rfl, ?_⟩ | with_reducible refine ⟨_, _, _, _, rfl, ?_⟩
  | with_reducible refine ⟨rfl, ?_⟩
  | assumption
  | with_reducible refine wx_callP (A := pr__law_low) ?_ | with_reducible refine use__law_low ?_ ?_ ?_
  | with_reducible refine use_plus1 ?_ ?_ ?_
  | with_reducible refine wx_callP (A := pr_plus) ?_ | with_reducible refine use_plus ?_ ?_ ?_
  | with_reducible refine wx_callP (A := pr_times) ?_ | with_reducible refine use_times ?_ ?_ ?_
  | with_reducible refine wx_callP (A := pr_rest) ?_ | with_reducible refine use_rest ?_
  | fail)))

theorem ok__law_plus (T : Txt K mg) (G_law_low : FnOk P w K mg base CX0 2 T._law_low.f T._law_low.fd ["_law_top", "_law_bottom"] (spD P w K pr__law_low)) : FnOk P w K mg base CX0 3 T._law_plus.f T._law_plus.fd ["_law_one", "_law_other"] (spD P w K pr__law_plus) := by
  refine fnD T._law_plus.F sc__law_plus len__law_plus (fun cdv Ar outer s H E hr => ⟨_, (pss_one (ps_ret (pe_call G_law_low (hr.mono (by decide)) rfl T._law_low.g T._law_low.F.kp T._law_low.b .nil pass0 (pa_cons (pe_op op_add (pe_op op_mulW (pe_ix (show IxR _ (rIxT K) from ix_tup) (pv 0) pe_int (fun _ _ => rfl)) (pe_ix (show IxR _ (rIxT K) from ix_tup) (pv 1) pe_int (fun _ _ => rfl))) (pe_op op_mulW (pe_ix (show IxR _ (rIxT K) from ix_tup) (pv 1) pe_int (fun _ _ => rfl)) (pe_ix (show IxR _ (rIxT K) from ix_tup) (pv 0) pe_int (fun _ _ => rfl)))) (pa_cons (pe_op op_mulW (pe_ix (show IxR _ (rIxT K) from ix_tup) (pv 0) pe_int (fun _ _ => rfl)) (pe_ix (show IxR _ (rIxT K) from ix_tup) (pv 1) pe_int (fun _ _ => rfl))) pa_nil))))), fun as m W h => ?_⟩)
  try dsimp only [cxOf, Cx.nox, Cx.wish]
  obtain ⟨p, q, rfl, rfl, hp, hq, k⟩ := h
  walk_at "dl"
  · exact ok_mul hp.bd.1 hq.bd.2
  · exact ok_mul hq.bd.1 hp.bd.2
  · exact ok_mul hp.bd.2 hq.bd.2
  · exact Int.mul_pos hp.pos hq.pos
  · exact mul_9000 hp.bd.2 hq.bd.2
  · exact ⟨_, k, List.nil_sublist _⟩
theorem ok__law_times (T : Txt K mg) (G_law_low : FnOk P w K mg base CX0 2 T._law_low.f T._law_low.fd ["_law_top", "_law_bottom"] (spD P w K pr__law_low)) : FnOk P w K mg base CX0 3 T._law_times.f T._law_times.fd ["_law_one", "_law_other"] (spD P w K pr__law_times) := by
  refine fnD T._law_times.F sc__law_times len__law_times (fun cdv Ar outer s H E hr => ⟨_, (pss_one (ps_ret (pe_call G_law_low (hr.mono (by decide)) rfl T._law_low.g T._law_low.F.kp T._law_low.b .nil pass0 (pa_cons (pe_op op_mulW (pe_ix (show IxR _ (rIxT K) from ix_tup) (pv 0) pe_int (fun _ _ => rfl)) (pe_ix (show IxR _ (rIxT K) from ix_tup) (pv 1) pe_int (fun _ _ => rfl))) (pa_cons (pe_op op_mulW (pe_ix (show IxR _ (rIxT K) from ix_tup) (pv 0) pe_int (fun _ _ => rfl)) (pe_ix (show IxR _ (rIxT K) from ix_tup) (pv 1) pe_int (fun _ _ => rfl))) pa_nil))))), fun as m W h => ?_⟩)
  try dsimp only [cxOf, Cx.nox, Cx.wish]
  obtain ⟨p, q, rfl, rfl, hp, hq, k⟩ := h
  walk_at "dl"
  · exact ok_mul hp.bd.1 hq.bd.1
  · exact ok_mul hp.bd.2 hq.bd.2
  · exact Int.mul_pos hp.pos hq.pos
  · exact mul_9000 hp.bd.2 hq.bd.2
  · exact ⟨_, k, List.nil_sublist _⟩
theorem ok__law_less (T : Txt K mg)  : FnOk P w K mg base CX0 1 T._law_less.f T._law_less.fd ["_law_one", "_law_other"] (spD P w K pr__law_less) := by
  refine fnD T._law_less.F sc__law_less len__law_less (fun cdv Ar outer s H E hr => ⟨_, (pss_one (ps_ret (pe_cmpR op_lt (pe_op op_mulW (pe_ix (show IxR _ (rIxT K) from ix_tup) (pv 0) pe_int (fun _ _ => rfl)) (pe_ix (show IxR _ (rIxT K) from ix_tup) (pv 1) pe_int (fun _ _ => rfl))) (pe_op op_mulW (pe_ix (show IxR _ (rIxT K) from ix_tup) (pv 1) pe_int (fun _ _ => rfl)) (pe_ix (show IxR _ (rIxT K) from ix_tup) (pv 0) pe_int (fun _ _ => rfl))) (nomark _)))), fun as m W h => ?_⟩)
  try dsimp only [cxOf, Cx.nox, Cx.wish]
  obtain ⟨p, q, rfl, rfl, hp, hq, k⟩ := h
  walk_at "dl"
  · exact ok_mul hp.bd.1 hq.bd.2
  · exact ok_mul hq.bd.1 hp.bd.2
  · exact ⟨_, k, List.nil_sublist _⟩
theorem ok__law_rest (T : Txt K mg)  : FnOk P w K mg base CX0 1 T._law_rest.f T._law_rest.fd ["_law_one"] (spD P w K pr__law_rest) := by
  refine fnD T._law_rest.F sc__law_rest len__law_rest (fun cdv Ar outer s H E hr => ⟨_, (pss_one (ps_ret (pe_tup (pa_cons (pe_op op_sub (pe_ix (show IxR _ (rIxT K) from ix_tup) (pv 0) pe_int (fun _ _ => rfl)) (pe_ix (show IxR _ (rIxT K) from ix_tup) (pv 0) pe_int (fun _ _ => rfl))) (pa_cons (pe_ix (show IxR _ (rIxT K) from ix_tup) (pv 0) pe_int (fun _ _ => rfl)) pa_nil))))), fun as m W h => ?_⟩)
  try dsimp only [cxOf, Cx.nox, Cx.wish]
  obtain ⟨p, rfl, rfl, k⟩ := h
  walk_at "dl"
  exact ⟨_, k, List.nil_sublist _⟩
/-- numbers that are fine are fit -/
theorem Ok.fine {p : Km.Frc} (h : Km.Fine 838 p) : Ok p := ⟨h.pos, h.bd.mono (by decide)⟩
theorem Ok.ch {p : Km.Frc} (h : Km.Ch p) : Ok p := ⟨h.pos, h.bd.mono (by decide)⟩
theorem Ok.rch {p : Km.Frc} (h : Km.Ch p) : Ok (Km.rest p) := ⟨h.rpos, h.rbd.mono (by decide)⟩
set_option exponentiation.threshold 5000 in
theorem Ok.nat {n : Nat} (h : n ≤ 100000) : Ok ((n : Int), 1) := ⟨Int.one_pos, Km.nat_bd (Nat.lt_of_le_of_lt h (Nat.lt_of_lt_of_le (by decide : 100000 < 2 ^ 17) (Nat.pow_le_pow_right (by decide) (by decide)))) (by decide)⟩
def pr_average : Prom := fun as m W => ∃ (c : Km.Frc) (n : Nat) (y x : Km.Frc), as = [.d (dF c), .d (dN n), .d (dF y), .d (dF x)] ∧ m = [] ∧ Km.Ch c ∧ n ≤ 1000 ∧ Km.Fine 838 y ∧ Km.Fine 838 x ∧ W (.d (dF (Km.average c n y x))) []
theorem use_average {W : Arg → List Ob → Prop} {c y x : Km.Frc} {n : Nat} (hc : Km.Ch c) (hn : n ≤ 1000) (hy : Km.Fine 838 y) (hx : Km.Fine 838 x) (k : W (.d (dF (Km.average c n y x))) []) : pr_average [.d (dF c), .d (dN n), .d (dF y), .d (dF x)] [] W := ⟨c, n, y, x, rfl, rfl, hc, hn, hy, hx, k⟩
theorem len_average (as m W) (h : pr_average as m W) : as.length = 4 := by obtain ⟨_, _, _, _, rfl, _⟩ := h; rfl
theorem av_ok1 {n : Nat} {y : Km.Frc} (hn : n ≤ 1000) (hy : Km.Fine 838 y) : Ok (Km.plus ((n : Int), 1) y) := ⟨Km.plus_pos Int.one_pos hy.pos, (Km.plus_bd (Km.nat_bd (w := n) (k := 10) (by omega) (by decide)) hy.bd).mono (by decide)⟩
theorem av_ok2 {c y : Km.Frc} {n : Nat} (hc : Km.Ch c) (hn : n ≤ 1000) (hy : Km.Fine 838 y) : Ok (Km.times c (Km.plus ((n : Int), 1) y)) :=
  ⟨Km.times_pos hc.pos (av_ok1 hn hy).pos, (Km.times_bd hc.bd (Km.plus_bd (Km.nat_bd (w := n) (k := 10) (by omega) (by decide)) hy.bd)).mono (by decide)⟩
theorem av_ok3 {c x : Km.Frc} (hc : Km.Ch c) (hx : Km.Fine 838 x) : Ok (Km.times (Km.rest c) x) := ⟨Km.times_pos hc.rpos hx.pos, (Km.times_bd hc.rbd hx.bd).mono (by decide)⟩
theorem ok_average (T : Txt K mg) (Gplus : FnOk P w K mg base CX0 3 T.plus.f T.plus.fd ["one", "other"] (spD P w K pr_plus)) (Grest : FnOk P w K mg base CX0 1 T.rest.f T.rest.fd ["one"] (spD P w K pr_rest)) (Gtimes : FnOk P w K mg base CX0 3 T.times.f T.times.fd ["one", "other"] (spD P w K pr_times)) : FnOk P w K mg base CX0 4 T.average.f T.average.fd ["chance", "worth", "yes", "no"] (spD P w K pr_average) := by
  refine fnD T.average.F sc_average len_average (fun cdv Ar outer s H E hr => ⟨_, (pss_cons (ps_set (i := 4) sc_average.nd rfl (by first | exact Or.inl rfl | exact Or.inr rfl) (pe_call Gtimes (hr.mono (by decide)) rfl T.times.g T.times.F.kp T.times.b .nil pass0 (pa_cons (pv 0) (pa_cons (pe_call Gplus (hr.mono (by decide)) rfl T.plus.g T.plus.F.kp T.plus.b .nil pass0 (pa_cons (pe_tup (pa_cons (pv 1) (pa_cons pe_int pa_nil))) (pa_cons (pv 2) pa_nil))) pa_nil))))
    (pss_one (ps_ret (pe_call Gplus (hr.mono (by decide)) rfl T.plus.g T.plus.F.kp T.plus.b .nil pass0 (pa_cons (pv 4) (pa_cons (pe_call Gtimes (hr.mono (by decide)) rfl T.times.g T.times.F.kp T.times.b .nil pass0 (pa_cons (pe_call Grest (hr.mono (by decide)) rfl T.rest.g T.rest.F.kp T.rest.b .nil pass0 (pa_cons (pv 0) pa_nil)) (pa_cons (pv 3) pa_nil))) pa_nil)))))), fun as m W h => ?_⟩)
  try dsimp only [cxOf, Cx.nox, Cx.wish]
  obtain ⟨c, n, y, x, rfl, rfl, hc, hn, hy, hx, k⟩ := h
  walk_at "dl"
  · exact Ok.nat (by omega)
  · exact Ok.fine hy
  · exact Ok.ch hc
  · exact av_ok1 hn hy
  · exact Ok.rch hc
  · exact Ok.fine hx
  · exact av_ok2 hc hn hy
  · exact av_ok3 hc hx
  · exact ⟨_, k, List.nil_sublist _⟩
end
end Dl

/-! comprehensions over lists of one kind; cuts; small rules -/
namespace Dl
open PySem PySem.Spec L2
theorem giv_congr {n : Nat} {f g : Nat → Bool} {v u : Nat → Arg} (hf : ∀ i, i < n → f i = g i) (hv : ∀ i, i < n → v i = u i) : giv n f v = giv n g u := by
  unfold giv
  have e : (List.range n).filter f = (List.range n).filter g := List.filter_congr fun i hi => hf i (List.mem_range.mp hi)
  rw [e]
  refine List.map_congr_left fun i hi => hv i (List.mem_range.mp (List.mem_filter.mp hi).1)
theorem giv_list {α : Type} (d : α) (f : α → Bool) (v : α → Arg) : ∀ l : List α, giv l.length (fun i => f (l.getD i d)) (fun i => v (l.getD i d)) = (l.filter f).map v := by
  intro l
  have key : ∀ (r : List α), giv r.reverse.length (fun i => f (r.reverse.getD i d)) (fun i => v (r.reverse.getD i d)) = (r.reverse.filter f).map v := by
    intro r
    induction r with
    | nil => rfl
    | cons a r ih =>
      have hl : (a :: r).reverse.length = r.reverse.length + 1 := by simp
      have hlast : (a :: r).reverse.getD r.reverse.length d = a := by simp [List.getD_eq_getElem?_getD]
      have hpre : ∀ i, i < r.reverse.length → (a :: r).reverse.getD i d = r.reverse.getD i d := fun i hi => by
        rw [List.reverse_cons, List.getD_eq_getElem?_getD, List.getD_eq_getElem?_getD, List.getElem?_append_left hi]
      rw [hl]
      have cg := giv_congr (n := r.reverse.length) (f := fun i => f ((a :: r).reverse.getD i d)) (g := fun i => f (r.reverse.getD i d)) (v := fun i => v ((a :: r).reverse.getD i d)) (u := fun i => v (r.reverse.getD i d))
        (fun i hi => by rw [hpre i hi]) (fun i hi => by rw [hpre i hi])
      cases hfa : f a with
      | true =>
        rw [giv_yes (by rw [hlast]; exact hfa), cg, ih, hlast, List.reverse_cons, List.filter_append, List.map_append, List.filter_cons, if_pos hfa]
        rfl
      | false =>
        rw [giv_no (by rw [hlast]; exact hfa), cg, ih, List.reverse_cons, List.filter_append, List.map_append, List.filter_cons, if_neg (by rw [hfa]; decide)]
        simp
  have := key l.reverse
  rwa [List.reverse_reverse] at this
theorem getD_mem {α : Type} {l : List α} {i : Nat} (d : α) (h : i < l.length) : l.getD i d ∈ l := by
  rw [← List.getElem_eq_getD d (h := h)]
  exact List.getElem_mem h
theorem map_at {α β : Type} {l : List α} {i : Nat} (d : α) (e : α → β) (h : i < l.length) : (l.map e)[i]? = some (e (l.getD i d)) := by
  rw [List.getElem?_map, List.getElem?_eq_getElem h, ← List.getElem_eq_getD d (h := h)]
  rfl
section
variable {B : Bs} {S : Sy} {F : Arg → Sy → Prop} {tl te : TE} {tt : TT} {vs : List Nat} {j k : Nat}
/-- over a tuple whose items are the codes of l's -/
theorem wx_lcT (h : WX B tl S fun x S1 => ∃ (α : Type) (d0 : α) (l : List α) (enc : α → D), x = .d (.tup (l.map enc)) ∧ j ∈ vs ∧ l.length ≤ 1000000 ∧ ∃ (f : α → Bool) (v : α → Arg),
      (∀ a ob, a ∈ l → WT B tt ⟨(wipeR S1.r vs).set j (some (.d (enc a))), S1.m ++ [ob]⟩ fun b S2 => b = f a ∧ (b = true → WX B te S2 fun y S3 => y = v a ∧ S1.m ++ [ob] <+: S3.m) ∧ (b = false → S1.m ++ [ob] <+: S2.m)) ∧
      ∀ p, F (.a p) { S1 with m := S1.m ++ [(p, .lst ((l.filter f).map v), true)] }) : WX B (tLc (iTup B.K tl) (gName j) tt te vs) S F := by
  refine wx_lcP (wi_tup (wx_imp h fun x S1 ⟨α, d0, l, enc, hx, hj, hl, f, v, hs, hd⟩ => ⟨_, hx, ?_⟩))
  refine ⟨fun i hi => by rw [List.mem_singleton.mp hi]; exact hj, by simpa using hl, fun _ _ => trivial, fun i => f (l.getD i d0), fun i => v (l.getD i d0), fun i ob hi => ?_, fun p => ?_⟩
  · rw [List.length_map] at hi
    have e : ((l.map enc)[i]?).map Arg.d = some (.d (enc (l.getD i d0))) := by rw [map_at d0 enc hi]; rfl
    dsimp only
    rw [e]
    exact hs _ ob (getD_mem d0 hi)
  · rw [List.length_map, giv_list d0 f v l]
    exact hd p
theorem wx_lcT2 (h : WX B tl S fun x S1 => ∃ (α : Type) (d0 : α) (l : List α) (e1 e2 : α → D), x = .d (.tup (l.map fun a => .tup [e1 a, e2 a])) ∧ (j ∈ vs ∧ k ∈ vs) ∧ l.length ≤ 1000000 ∧ ∃ (f : α → Bool) (v : α → Arg),
      (∀ a ob, a ∈ l → WT B tt ⟨((wipeR S1.r vs).set j (some (.d (e1 a)))).set k (some (.d (e2 a))), S1.m ++ [ob]⟩ fun b S2 => b = f a ∧ (b = true → WX B te S2 fun y S3 => y = v a ∧ S1.m ++ [ob] <+: S3.m) ∧ (b = false → S1.m ++ [ob] <+: S2.m)) ∧
      ∀ p, F (.a p) { S1 with m := S1.m ++ [(p, .lst ((l.filter f).map v), true)] }) : WX B (tLc (iTup B.K tl) (gTup B.K 2 (gCons (gName j) (gCons (gName k) gNil))) tt te vs) S F := by
  refine wx_lcP (wi_tupN (is := [j, k]) (wx_imp h fun x S1 ⟨α, d0, l, e1, e2, hx, hj, hl, f, v, hs, hd⟩ => ⟨_, fun i => [e1 (l.getD i d0), e2 (l.getD i d0)], hx, fun i hi => ⟨?_, rfl⟩, ?_⟩))
  · rw [List.length_map] at hi
    exact map_at d0 (fun a => D.tup [e1 a, e2 a]) hi
  refine ⟨fun i hi => by rcases List.mem_cons.mp hi with rfl | hi; exact hj.1; rw [List.mem_singleton.mp hi]; exact hj.2, by simpa using hl, fun _ _ => trivial, fun i => f (l.getD i d0), fun i => v (l.getD i d0), fun i ob hi => ?_, fun p => ?_⟩
  · rw [List.length_map] at hi
    exact hs _ ob (getD_mem d0 hi)
  · rw [List.length_map, giv_list d0 f v l]
    exact hd p
/-- over a list whose items are the codes of l's -/
theorem wx_lcL (h : WX B tl S fun x S1 => ∃ (α : Type) (d0 : α) (l : List α) (enc : α → Arg) (p0 : Addr) (n : Nat) (c : Bool), x = .a p0 ∧ S1.m[n]? = some (p0, .lst (l.map enc), c) ∧ j ∈ vs ∧ l.length ≤ 1000000 ∧ ∃ (f : α → Bool) (v : α → Arg),
      (∀ a ob, a ∈ l → WT B tt ⟨(wipeR S1.r vs).set j (some (enc a)), S1.m ++ [ob]⟩ fun b S2 => b = f a ∧ (b = true → WX B te S2 fun y S3 => y = v a ∧ S1.m ++ [ob] <+: S3.m) ∧ (b = false → S1.m ++ [ob] <+: S2.m)) ∧
      ∀ p, F (.a p) { S1 with m := S1.m ++ [(p, .lst ((l.filter f).map v), true)] }) : WX B (tLc (iList B.K tl) (gName j) tt te vs) S F := by
  refine wx_lcP (wi_list (wx_imp h fun x S1 ⟨α, d0, l, enc, p0, n, c, hx, hm, hj, hl, f, v, hs, hd⟩ => ⟨p0, n, _, c, hx, hm, ?_⟩))
  refine ⟨fun i hi => by rw [List.mem_singleton.mp hi]; exact hj, by simpa using hl, fun r y => ?_, fun i => f (l.getD i d0), fun i => v (l.getD i d0), fun i ob hi => ?_, fun p => ?_⟩
  · show (S1.m ++ [y])[n]? = _
    rw [List.getElem?_append_left (List.getElem?_eq_some_iff.mp hm).1]
    exact hm
  · rw [List.length_map] at hi
    have e : (l.map enc)[i]? = some (enc (l.getD i d0)) := map_at d0 enc hi
    dsimp only
    rw [e]
    exact hs _ ob (getD_mem d0 hi)
  · rw [List.length_map, giv_list d0 f v l]
    exact hd p
/-- over range -/
theorem wx_lcR {ta : TA} (h : WA B ta S fun xs S1 => ∃ n : Nat, xs = [.d (.int n)] ∧ j ∈ vs ∧ n ≤ 1000000 ∧ ∃ (f : Nat → Bool) (v : Nat → Arg),
      (∀ i ob, i < n → WT B tt ⟨(wipeR S1.r vs).set j (some (.d (dN i))), S1.m ++ [ob]⟩ fun b S2 => b = f i ∧ (b = true → WX B te S2 fun y S3 => y = v i ∧ S1.m ++ [ob] <+: S3.m) ∧ (b = false → S1.m ++ [ob] <+: S2.m)) ∧
      ∀ p, F (.a p) { S1 with m := S1.m ++ [(p, .lst (((List.range n).filter f).map v), true)] }) : WX B (tLc (iRng1 ta) (gName j) tt te vs) S F := by
  refine wx_lcP (wi_range fun σ H st Q q => h σ H st Q fun xs S1 us H1 ⟨n, hx, hj, hl, f, v, hs, hd⟩ => q xs S1 us H1 ⟨n, hx, hl, fun i hi => by rw [List.mem_singleton.mp hi]; exact hj, hl, fun _ _ => trivial, f, v, hs, hd⟩)
/-- over enumerate(tuple) -/
theorem wx_lcE {ta : TA} (h : WA B ta S fun xs S1 => ∃ (α : Type) (d0 : α) (l : List α) (enc : α → D), xs = [.d (.tup (l.map enc))] ∧ (j ∈ vs ∧ k ∈ vs) ∧ l.length ≤ 1000000 ∧ ∃ (f : Nat → α → Bool) (v : Nat → α → Arg),
      (∀ i a ob, l[i]? = some a → WT B tt ⟨((wipeR S1.r vs).set j (some (.d (dN i)))).set k (some (.d (enc a))), S1.m ++ [ob]⟩ fun b S2 => b = f i a ∧ (b = true → WX B te S2 fun y S3 => y = v i a ∧ S1.m ++ [ob] <+: S3.m) ∧ (b = false → S1.m ++ [ob] <+: S2.m)) ∧
      ∀ p, F (.a p) { S1 with m := S1.m ++ [(p, .lst (((List.range l.length).filter fun i => f i (l.getD i d0)).map fun i => v i (l.getD i d0)), true)] }) : WX B (tLc (iEnumT B.K ta) (gTup B.K 2 (gCons (gName j) (gCons (gName k) gNil))) tt te vs) S F := by
  refine wx_lcP (wi_enumT (a := j) (b := k) fun σ H st Q q => h σ H st Q fun xs S1 us H1 ⟨α, d0, l, enc, hx, hj, hl, f, v, hs, hd⟩ => q xs S1 us H1 ⟨_, hx, fun i hi => by rcases List.mem_cons.mp hi with rfl | hi; exact hj.1; rw [List.mem_singleton.mp hi]; exact hj.2, by simpa using hl, fun _ _ => trivial, fun i => f i (l.getD i d0), fun i => v i (l.getD i d0), fun i ob hi => ?_, fun p => ?_⟩)
  · rw [List.length_map] at hi
    have e : ((l.map enc)[i]?).map Arg.d = some (.d (enc (l.getD i d0))) := by rw [map_at d0 enc hi]; rfl
    dsimp only
    rw [e]
    exact hs i _ ob (by rw [List.getElem?_eq_getElem hi, ← List.getElem_eq_getD d0 (h := hi)])
  · rw [List.length_map]
    exact hd p
/-! ### cuts -/
theorem wx_cut2 (h : WX B te S fun x S1 => ∃ a b r, x = .d (.tup (a :: b :: r)) ∧ F (.d (.tup [a, b])) S1) : WX B (tSl (rSlA B.K) te tNoPart (tPart (tC (.int 2)))) S F :=
  wx_slT (.inl ⟨rfl, rfl⟩) (.inr ⟨2, rfl, rfl⟩) (wx_imp h fun x S1 ⟨a, b, r, hx, hF⟩ => ⟨_, hx, by
    have e : cutD (a :: b :: r) none (some 2) = [a, b] := by
      unfold cutD
      have e1 : HT.sIx (a :: b :: r).length 0 none = 0 := rfl
      have e2 : HT.sIx (a :: b :: r).length (a :: b :: r).length (some 2) = min 2 (a :: b :: r).length := HT.sIx_nat _ _ 2
      rw [e1, e2, List.length_cons, List.length_cons, Nat.min_eq_left (by omega)]
      rfl
    rw [e]; exact hF⟩)
theorem wx_cut_2 (h : WX B te S fun x S1 => ∃ a b c d, x = .d (.tup [a, b, c, d]) ∧ F (.d (.tup [c, d])) S1) : WX B (tSl (rSlA B.K) te (tPart (tC (.int 2))) tNoPart) S F :=
  wx_slT (.inr ⟨2, rfl, rfl⟩) (.inl ⟨rfl, rfl⟩) (wx_imp h fun x S1 ⟨a, b, c, d, hx, hF⟩ => ⟨_, hx, hF⟩)
end
/-! ### lists as a pile: the last object is used up -/
theorem le_last {r : List (Option Arg)} {m : List Ob} {x : Ob} : Le ⟨r, m⟩ ⟨r, m ++ [x]⟩ := ⟨fun _ _ h => h, rfl, List.sublist_append_left ..⟩
theorem wc_drop {B : Bs} {f : List V → Hp → VK → Prop} {xs : List Arg} {S S' : Sy} {F : Arg → Sy → Prop} (l : Le S' S) (h : WC B f xs S fun y S1 => S1 = S ∧ F y S') : WC B f xs S F := fun σ H st us hu Q q =>
  h σ H st us hu Q fun z S1 w H' ⟨e, f1⟩ st1 t1 a1 => q z S' w H' f1 (by rw [e] at st1; exact st1.le l) t1 a1
theorem wr_drop {B : Bs} {f : R2} {x y : Arg} {S S' : Sy} {F : Arg → Sy → Prop} (l : Le S' S) (h : WR B f x y S fun y S1 => S1 = S ∧ F y S') : WR B f x y S F := fun σ H st u v hu hv Q q =>
  h σ H st u v hu hv Q fun z S1 w H' ⟨e, f1⟩ st1 t1 a1 => q z S' w H' f1 (by rw [e] at st1; exact st1.le l) t1 a1
theorem at_last {m : List Ob} {x : Ob} : (m ++ [x])[m.length]? = some x := by simp
section
variable {B : Bs} {r : List (Option Arg)} {m : List Ob} {F : Arg → Sy → Prop} {p : Addr} {c : Bool}
theorem wc_tupZ {ds : List D} (k : F (.d (.tup ds)) ⟨r, m⟩) : WC B (rTupOf B.K) [.a p] ⟨r, m ++ [(p, .lst (ds.map Arg.d), c)]⟩ F := wc_drop le_last (wc_tupL at_last ⟨rfl, k⟩)
theorem wc_lenZ {xs : List Arg} (k : F (.d (.int xs.length)) ⟨r, m⟩) : WC B (rLen B.K) [.a p] ⟨r, m ++ [(p, .lst xs, c)]⟩ F := wc_drop le_last (wc_lenL at_last ⟨rfl, k⟩)
theorem wc_allZ {bs : List Bool} (k : F (.d (.bl (bs.all id))) ⟨r, m⟩) : WC B (rAll B.K) [.a p] ⟨r, m ++ [(p, .lst (bs.map fun x => .d (.bl x)), c)]⟩ F := wc_drop le_last (wc_all at_last ⟨rfl, k⟩)
theorem wc_sumZ {ns : List Int} (k : F (.d (.int ns.sum)) ⟨r, m⟩) : WC B (rSum B.K) [.a p] ⟨r, m ++ [(p, .lst (ns.map fun x => .d (.int x)), c)]⟩ F := wc_drop le_last (wc_sum at_last ⟨rfl, k⟩)
theorem wr_ixZ {xs : List Arg} {i : Int} {x : Arg} (h : atI xs i = some x) (k : F x ⟨r, m⟩) : WR B (rIxL B.K) (.a p) (.d (.int i)) ⟨r, m ++ [(p, .lst xs, c)]⟩ F := wr_drop le_last (wr_ixL at_last h ⟨rfl, k⟩)
theorem wr_eqZ {n : Nat} {q : Addr} {ds : List D} {b : Bool} (hm : m[n]? = some (q, .lst (ds.map Arg.d), b)) (hd : (PyData.list (pys ds)).depth ≤ 64) (k : F (.d (.bl ds.isEmpty)) ⟨r, m⟩) : WR B (rEqD B.K) (.a q) (.a p) ⟨r, m ++ [(p, .lst [], c)]⟩ F :=
  wr_drop le_last (wr_eqE (n := n) (j := m.length) (by show (m ++ [_])[n]? = _; rw [List.getElem?_append_left (List.getElem?_eq_some_iff.mp hm).1]; exact hm) at_last hd ⟨rfl, k⟩)
theorem wr_neZ {n : Nat} {q : Addr} {ds : List D} {b : Bool} (hm : m[n]? = some (q, .lst (ds.map Arg.d), b)) (hd : (PyData.list (pys ds)).depth ≤ 64) (k : F (.d (.bl (!ds.isEmpty))) ⟨r, m⟩) : WR B (rNeD B.K) (.a q) (.a p) ⟨r, m ++ [(p, .lst [], c)]⟩ F :=
  wr_drop le_last (wr_neE (n := n) (j := m.length) (by show (m ++ [_])[n]? = _; rw [List.getElem?_append_left (List.getElem?_eq_some_iff.mp hm).1]; exact hm) at_last hd ⟨rfl, k⟩)
theorem le_last1 {x y : Ob} : Le ⟨r, m ++ [y]⟩ ⟨r, m ++ [x] ++ [y]⟩ := ⟨fun _ _ h => h, rfl, List.Sublist.append (List.sublist_append_left ..) (List.Sublist.refl _)⟩
theorem wr_catZ {n : Nat} {q : Addr} {xs ys : List Arg} {b : Bool} (hm : m[n]? = some (q, .lst xs, b)) (hl : xs.length + ys.length ≤ 1000000) (k : ∀ l, F (.a l) ⟨r, m ++ [(l, .lst (xs ++ ys), true)]⟩) : WR B rCat (.a q) (.a p) ⟨r, m ++ [(p, .lst ys, c)]⟩ F := fun σ H st u v hu hv Q z =>
  wr_catL (F := fun x S => ∃ l, x = .a l ∧ S = ⟨r, m ++ [(p, .lst ys, c)] ++ [(l, .lst (xs ++ ys), true)]⟩) (n := n) (j := m.length) (by show (m ++ [_])[n]? = _; rw [List.getElem?_append_left (List.getElem?_eq_some_iff.mp hm).1]; exact hm) at_last hl (fun l => ⟨l, rfl, rfl⟩) σ H st u v hu hv Q
    fun x S w H' ⟨l, e1, e2⟩ st1 t1 a1 => z x _ w H' (e1 ▸ k l) (by rw [e2] at st1; exact st1.le le_last1) t1 a1
end
/-! ### sorted, by kind -/
open Km in
section
theorem all_int {l : List Nat} : ∀ d ∈ (l.map dN).map py, ∃ n : Nat, d = .int n := fun d hd => by
  rw [List.map_map] at hd
  obtain ⟨n, _, rfl⟩ := List.mem_map.mp hd
  exact ⟨n, rfl⟩
theorem alike_N (l : List Nat) : W.AllAlike ((l.map dN).map py) := fun d hd d' hd' => by
  obtain ⟨n, rfl⟩ := all_int d hd
  obtain ⟨n', rfl⟩ := all_int d' hd'
  rfl
theorem sortable_N (l : List Nat) : W.Sortable ((l.map dN).map py) := .inr fun d hd => by
  obtain ⟨n, rfl⟩ := all_int d hd
  exact ⟨nofun, nofun⟩
theorem sort_N (l : List Nat) : (l.map dN).mergeSort (W.dataLe false py) = (sortN l).map dN := by
  unfold sortN
  refine (List.map_mergeSort (r := nle) (s := W.dataLe false py) fun a _ b _ => ?_).symm
  show decide ((a : Int) ≤ (b : Int)) = !W.dataLt (.int (b : Int)) (.int (a : Int))
  rw [W.dataLt_int, ← decide_not]
  exact decide_eq_decide.mpr (by omega)
theorem all_pair {l : Known} : ∀ d ∈ (l.map dP).map py, ∃ p : Nat × Bool, d = .tuple [.int (p.1 : Int), .bool p.2] := fun d hd => by
  rw [List.map_map] at hd
  obtain ⟨p, _, rfl⟩ := List.mem_map.mp hd
  exact ⟨p, rfl⟩
theorem alike_K (l : Known) : W.AllAlike ((l.map dP).map py) := fun d hd d' hd' => by
  obtain ⟨n, rfl⟩ := all_pair d hd
  obtain ⟨n', rfl⟩ := all_pair d' hd'
  simp [W.alike, W.alikeAll]
theorem sortable_K (l : Known) : W.Sortable ((l.map dP).map py) := .inl fun d hd => by
  obtain ⟨n, rfl⟩ := all_pair d hd
  exact ⟨_, _, rfl⟩
theorem lt_pair (i j : Nat) (x y : Bool) : W.dataLt (.tuple [.int (i : Int), .bool x]) (.tuple [.int (j : Int), .bool y]) = if (i : Int) = (j : Int) then (if x = y then false else (!x && y)) else decide ((i : Int) < (j : Int)) := by
  rw [W.dataLt_tuple, W.dataLt_cons (by simp [W.alike]), W.dataLt_cons (by simp [W.alike]), W.dataLt_int, W.dataLt_bool]
  simp only [PyData.eqv]
  by_cases h : (i : Int) = (j : Int)
  · simp only [h, beq_self_eq_true, if_true]
    cases x <;> cases y <;> rfl
  · have h' : ((i : Int) == (j : Int)) = false := by simpa using h
    simp [h, h']
theorem sort_K (l : Known) : (l.map dP).mergeSort (W.dataLe false py) = (sortK l).map dP := by
  unfold sortK
  refine (List.map_mergeSort (r := kle) (s := W.dataLe false py) fun a _ b _ => ?_).symm
  show kle a b = !W.dataLt (.tuple [.int (b.1 : Int), .bool b.2]) (.tuple [.int (a.1 : Int), .bool a.2])
  rw [lt_pair]
  rfl
theorem dp_N {l : List Nat} : ∀ d ∈ l.map dN, (py d).depth ≤ 60 := fun d hd => by
  obtain ⟨n, _, rfl⟩ := List.mem_map.mp hd
  simp [py, PyData.depth]
theorem dp_K {l : Known} : ∀ d ∈ l.map dP, (py d).depth ≤ 60 := fun d hd => by
  obtain ⟨n, _, rfl⟩ := List.mem_map.mp hd
  simp [py, pys, PyData.depth, PyData.depthAll]
section
variable {B : Bs} {S : Sy} {F : Arg → Sy → Prop} {r : List (Option Arg)} {m : List Ob} {p : Addr} {c : Bool}
theorem wc_sortTN {l : List Nat} (k : ∀ q, F (.a q) { S with m := S.m ++ [(q, .lst (((sortN l).map dN).map Arg.d), true)] }) : WC B (rSortD B.K) [.d (.tup (l.map dN))] S F :=
  wc_sortT (alike_N l) (sortable_N l) dp_N (by rw [sort_N]; exact k)
theorem wc_sortLK {l : Known} (k : ∀ q, F (.a q) ⟨r, m ++ [(p, .lst ((l.map dP).map Arg.d), c)] ++ [(q, .lst (((sortK l).map dP).map Arg.d), true)]⟩) : WC B (rSortD B.K) [.a p] ⟨r, m ++ [(p, .lst ((l.map dP).map Arg.d), c)]⟩ F :=
  wc_sortL at_last (alike_K l) (sortable_K l) dp_K (by rw [sort_K]; exact k)
/-! ### joined -/
theorem wr_catN {l k : List Nat} (hl : l.length + k.length ≤ 1000000) (z : F (.d (.tup ((l ++ k).map dN))) S) : WR B (rCatA B.K) (.d (.tup (l.map dN))) (.d (.tup (k.map dN))) S F := wr_catT (by simpa using hl) (by rw [← List.map_append]; exact z)
theorem wr_catN1 {l : List Nat} {n : Nat} (hl : l.length ≤ 100000) (z : F (.d (.tup ((l ++ [n]).map dN))) S) : WR B (rCatA B.K) (.d (.tup (l.map dN))) (.d (.tup [dN n])) S F := wr_catN (k := [n]) (by simp; omega) z
theorem wr_catN2 {l : List Nat} {a b : Nat} (hl : l.length ≤ 100000) (z : F (.d (.tup ((l ++ [a, b]).map dN))) S) : WR B (rCatA B.K) (.d (.tup (l.map dN))) (.d (.tup [dN a, dN b])) S F := wr_catN (k := [a, b]) (by simp; omega) z
theorem wc_lenM {α : Type} {l : List α} {e : α → D} (k : F (.d (dN l.length)) S) : WC B (rLen B.K) [.d (.tup (l.map e))] S F := wc_lenT (by rw [List.length_map]; exact k)
/-! ### in -/
theorem contains_N (i : Nat) (l : List Nat) : (l.map (fun n : Nat => (n : Int))).contains (i : Int) = l.contains i := by
  rw [Bool.eq_iff_iff, List.contains_iff_mem, List.contains_iff_mem, List.mem_map]
  exact ⟨fun ⟨a, ha, he⟩ => by have : a = i := by omega
                               rw [← this]; exact ha, fun h => ⟨i, h, rfl⟩⟩
theorem map_N (l : List Nat) : l.map dN = (l.map (fun n : Nat => (n : Int))).map D.int := by rw [List.map_map]; rfl
theorem wr_inN {i : Nat} {l : List Nat} (k : F (.d (.bl (l.contains i))) S) : WR B (rIn B.K false) (.d (dN i)) (.d (.tup (l.map dN))) S F := by
  rw [map_N]
  exact wr_inT (by rw [contains_N]; exact k)
theorem wr_inN2 {i a b : Nat} (k : F (.d (.bl ([a, b].contains i))) S) : WR B (rIn B.K false) (.d (dN i)) (.d (.tup [dN a, dN b])) S F := wr_inN (l := [a, b]) k
/-! ### ties, patience -/
theorem tie_at {W : Web} {t : Nat} (h : t < W.n) : atI (W.ties.map dTie) (t : Int) = some (dTie (W.tie t)) := atI_nat (map_at (⟨0, 0, (0, 1), 0⟩ : Tie) dTie h)
theorem pat_at {W : Web} {t : Nat} (h : t < W.pat.length) : atI (W.pat.map dN) (t : Int) = some (dN (W.pat.getD t 0)) := atI_nat (map_at 0 dN h)
end
end
/-! ### for -/
section
variable {B : Bs} {S : Sy} {E : En} {tl : TE} {ta : TA} {t : TS} {j k : Nat}
theorem ws_forT (h : WX B tl S fun x S1 => ∃ (α : Type) (d0 : α) (l : List α) (enc : α → D), x = .d (.tup (l.map enc)) ∧ ∃ I : Nat → Sy → Prop, I 0 S1 ∧
      (∀ i a S', l[i]? = some a → I i S' → WS B t { S' with r := S'.r.set j (some (.d (enc a))) } { nx := fun S2 => ∃ S3, Le S3 S2 ∧ I (i + 1) S3, rt := E.rt, bk := E.nx, ct := fun S2 => ∃ S3, Le S3 S2 ∧ I (i + 1) S3 }) ∧ ∀ S', I l.length S' → E.nx S') :
    WS B (tFor (iTup B.K tl) (gName j) t) S E := by
  refine ws_for (wi_tup (wx_imp h fun x S1 ⟨α, d0, l, enc, hx, I, h0, hs, hd⟩ => ⟨_, hx, I, h0, fun _ _ _ => trivial, fun i S' hi hI => ?_, by rw [List.length_map]; exact hd⟩))
  rw [List.length_map] at hi
  have e : ((l.map enc)[i]?).map Arg.d = some (.d (enc (l.getD i d0))) := by rw [map_at d0 enc hi]; rfl
  dsimp only
  rw [e]
  exact hs i _ S' (by rw [List.getElem?_eq_getElem hi, ← List.getElem_eq_getD d0 (h := hi)]) hI
theorem ws_forL (h : WX B tl S fun x S1 => ∃ (α : Type) (d0 : α) (l : List α) (enc : α → Arg) (p : Addr) (n : Nat) (c : Bool), x = .a p ∧ S1.m[n]? = some (p, .lst (l.map enc), c) ∧ ∃ I : Nat → Sy → Prop, I 0 S1 ∧ (∀ i S', I i S' → S'.m[n]? = some (p, .lst (l.map enc), c)) ∧
      (∀ i a S', l[i]? = some a → I i S' → WS B t { S' with r := S'.r.set j (some (enc a)) } { nx := fun S2 => ∃ S3, Le S3 S2 ∧ I (i + 1) S3, rt := E.rt, bk := E.nx, ct := fun S2 => ∃ S3, Le S3 S2 ∧ I (i + 1) S3 }) ∧ ∀ S', I l.length S' → E.nx S') :
    WS B (tFor (iList B.K tl) (gName j) t) S E := by
  refine ws_for (wi_list (wx_imp h fun x S1 ⟨α, d0, l, enc, p, n, c, hx, hm, I, h0, hG, hs, hd⟩ => ⟨p, n, _, c, hx, hm, I, h0, hG, fun i S' hi hI => ?_, by rw [List.length_map]; exact hd⟩))
  rw [List.length_map] at hi
  have e : (l.map enc)[i]? = some (enc (l.getD i d0)) := map_at d0 enc hi
  dsimp only
  rw [e]
  exact hs i _ S' (by rw [List.getElem?_eq_getElem hi, ← List.getElem_eq_getD d0 (h := hi)]) hI
theorem ws_forV (h : WA B ta S fun xs S1 => ∃ (α : Type) (d0 : α) (l : List α) (enc : α → Arg) (p : Addr) (n : Nat) (c : Bool), xs = [.a p] ∧ S1.m[n]? = some (p, .lst (l.map enc), c) ∧ ∃ I : Nat → Sy → Prop, I 0 S1 ∧ (∀ i S', I i S' → S'.m[n]? = some (p, .lst (l.map enc), c)) ∧
      (∀ i a S', l.reverse[i]? = some a → I i S' → WS B t { S' with r := S'.r.set j (some (enc a)) } { nx := fun S2 => ∃ S3, Le S3 S2 ∧ I (i + 1) S3, rt := E.rt, bk := E.nx, ct := fun S2 => ∃ S3, Le S3 S2 ∧ I (i + 1) S3 }) ∧ ∀ S', I l.length S' → E.nx S') :
    WS B (tFor (iRev B.K ta) (gName j) t) S E := by
  refine ws_for (wi_rev fun σ H st Q q => h σ H st Q fun xs S1 us H1 ⟨α, d0, l, enc, p, n, c, hx, hm, I, h0, hG, hs, hd⟩ => q xs S1 us H1 ⟨p, n, _, c, hx, hm, I, h0, hG, fun i S' hi hI => ?_, by rw [List.length_map]; exact hd⟩)
  rw [List.length_map] at hi
  have hi' : i < l.reverse.length := by rw [List.length_reverse]; exact hi
  have e : (l.map enc).reverse[i]? = some (enc (l.reverse.getD i d0)) := by rw [← List.map_reverse]; exact map_at d0 enc hi'
  dsimp only
  rw [e]
  exact hs i _ S' (by rw [List.getElem?_eq_getElem hi', ← List.getElem_eq_getD d0 (h := hi')]) hI
theorem ws_forR (h : WA B ta S fun xs S1 => ∃ n : Nat, xs = [.d (.int n)] ∧ n ≤ 1000000 ∧ ∃ I : Nat → Sy → Prop, I 0 S1 ∧
      (∀ i S', i < n → I i S' → WS B t { S' with r := S'.r.set j (some (.d (dN i))) } { nx := fun S2 => ∃ S3, Le S3 S2 ∧ I (i + 1) S3, rt := E.rt, bk := E.nx, ct := fun S2 => ∃ S3, Le S3 S2 ∧ I (i + 1) S3 }) ∧ ∀ S', I n S' → E.nx S') :
    WS B (tFor (iRng1 ta) (gName j) t) S E :=
  ws_for (wi_range fun σ H st Q q => h σ H st Q fun xs S1 us H1 ⟨n, hx, hn, I, h0, hs, hd⟩ => q xs S1 us H1 ⟨n, hx, hn, I, h0, fun _ _ _ => trivial, fun i S' hi hI => hs i S' hi hI, hd⟩)
theorem ws_forE (h : WA B ta S fun xs S1 => ∃ (α : Type) (d0 : α) (l : List α) (enc : α → D), xs = [.d (.tup (l.map enc))] ∧ ∃ I : Nat → Sy → Prop, I 0 S1 ∧
      (∀ i a S', l[i]? = some a → I i S' → WS B t { S' with r := (S'.r.set j (some (.d (dN i)))).set k (some (.d (enc a))) } { nx := fun S2 => ∃ S3, Le S3 S2 ∧ I (i + 1) S3, rt := E.rt, bk := E.nx, ct := fun S2 => ∃ S3, Le S3 S2 ∧ I (i + 1) S3 }) ∧ ∀ S', I l.length S' → E.nx S') :
    WS B (tFor (iEnumT B.K ta) (gTup B.K 2 (gCons (gName j) (gCons (gName k) gNil))) t) S E := by
  refine ws_for (wi_enumT (a := j) (b := k) fun σ H st Q q => h σ H st Q fun xs S1 us H1 ⟨α, d0, l, enc, hx, I, h0, hs, hd⟩ => q xs S1 us H1 ⟨_, hx, I, h0, fun _ _ _ => trivial, fun i S' hi hI => ?_, by rw [List.length_map]; exact hd⟩)
  rw [List.length_map] at hi
  have e : ((l.map enc)[i]?).map Arg.d = some (.d (enc (l.getD i d0))) := by rw [map_at d0 enc hi]; rfl
  dsimp only
  rw [e]
  exact hs i _ S' (by rw [List.getElem?_eq_getElem hi, ← List.getElem_eq_getD d0 (h := hi)]) hI
theorem ws_forZ (h : WA B ta S fun xs S1 => ∃ (α β : Type) (d0 : α) (c0 : β) (l : List α) (l' : List β) (enc : α → D) (enc' : β → D), xs = [.d (.tup (l.map enc)), .d (.tup (l'.map enc'))] ∧ l.length = l'.length ∧ ∃ I : Nat → Sy → Prop, I 0 S1 ∧
      (∀ i a b S', l[i]? = some a → l'[i]? = some b → I i S' → WS B t { S' with r := (S'.r.set j (some (.d (enc a)))).set k (some (.d (enc' b))) } { nx := fun S2 => ∃ S3, Le S3 S2 ∧ I (i + 1) S3, rt := E.rt, bk := E.nx, ct := fun S2 => ∃ S3, Le S3 S2 ∧ I (i + 1) S3 }) ∧ ∀ S', I l.length S' → E.nx S') :
    WS B (tFor (RZ.iZipA B.K ta) (gTup B.K 2 (gCons (gName j) (gCons (gName k) gNil))) t) S E := by
  refine ws_for (wi_zipT (a := j) (b := k) fun σ H st Q q => h σ H st Q fun xs S1 us H1 ⟨α, β, d0, c0, l, l', enc, enc', hx, hl, I, h0, hs, hd⟩ => q xs S1 us H1 ⟨_, _, hx, by simpa using hl, I, h0, fun _ _ _ => trivial, fun i S' hi hI => ?_, by rw [List.length_map]; exact hd⟩)
  rw [List.length_map] at hi
  have hi' : i < l'.length := by omega
  have e : ((l.map enc)[i]?).map Arg.d = some (.d (enc (l.getD i d0))) := by rw [map_at d0 enc hi]; rfl
  have e' : ((l'.map enc')[i]?).map Arg.d = some (.d (enc' (l'.getD i c0))) := by rw [map_at c0 enc' hi']; rfl
  dsimp only
  rw [e, e']
  exact hs i _ _ S' (by rw [List.getElem?_eq_getElem hi, ← List.getElem_eq_getD d0 (h := hi)]) (by rw [List.getElem?_eq_getElem hi', ← List.getElem_eq_getD c0 (h := hi')]) hI
end
theorem cat21 {a b c : D} : [a, b].length + [c].length ≤ 1000000 := len_le rfl
theorem cat22 {a b c d : D} : [a, b].length + [c, d].length ≤ 1000000 := len_le rfl
theorem dp_all : ∀ {ds : List D} {k : Nat}, (∀ d ∈ ds, (py d).depth ≤ k) → PyData.depthAll (pys ds) ≤ k
  | [], k, _ => by simp [pys, PyData.depthAll]
  | d :: ds, k, h => by
    simp only [pys, PyData.depthAll]
    have h1 := h d List.mem_cons_self
    have h2 := dp_all (ds := ds) fun x hx => h x (List.mem_cons_of_mem _ hx)
    omega
theorem dp_list {ds : List D} (h : ∀ d ∈ ds, (py d).depth ≤ 60) : (PyData.list (pys ds)).depth ≤ 64 := by
  have := dp_all h
  simp only [PyData.depth]
  omega
theorem dp_bls {l : List Bool} : ∀ d ∈ l.map D.bl, (py d).depth ≤ 60 := fun d hd => by
  obtain ⟨n, _, rfl⟩ := List.mem_map.mp hd
  simp [py, PyData.depth]
/-! ### the wider help for tests: yes -/
theorem wt_yes {B : Bs} {S : Sy} {F : Bool → Sy → Prop} (k : F true S) : WT B tYes S F := fun σ H st Q q => q true S H k st (T.refl H)
end Dl

/-! the defs of the text: webs, stands -/
namespace Dl
open PySem PySem.Spec L2
open Km (Web Stand Wide Known Groups WebOk)
section
variable {P : Program} {w : World} {K : PySem.W.Frag} {mg : Str → Option Value} {base : Heap}
def pr_ends_of : Prom := fun as m U => ∃ (W : Web) (t : Nat), as = [.d (dW W), .d (dN t)] ∧ m = [] ∧ t < W.n ∧ U (.d (.tup ((W.ends t).map dN))) []
theorem use_ends_of {U : Arg → List Ob → Prop} {W : Web} {t : Nat} (h : t < W.n) (k : U (.d (.tup ((W.ends t).map dN))) []) : pr_ends_of [.d (dW W), .d (dN t)] [] U := ⟨W, t, rfl, rfl, h, k⟩
theorem len_ends_of (as m W) (h : pr_ends_of as m W) : as.length = 2 := by obtain ⟨_, _, rfl, _⟩ := h; rfl
def pr_chance_in : Prom := fun as m U => ∃ (W : Web) (t : Nat), as = [.d (dW W), .d (dN t)] ∧ m = [] ∧ t < W.n ∧ U (.d (dF (W.tie t).c)) []
theorem use_chance_in {U : Arg → List Ob → Prop} {W : Web} {t : Nat} (h : t < W.n) (k : U (.d (dF (W.tie t).c)) []) : pr_chance_in [.d (dW W), .d (dN t)] [] U := ⟨W, t, rfl, rfl, h, k⟩
theorem len_chance_in (as m W) (h : pr_chance_in as m W) : as.length = 2 := by obtain ⟨_, _, rfl, _⟩ := h; rfl
def pr_worth_in : Prom := fun as m U => ∃ (W : Web) (t : Nat), as = [.d (dW W), .d (dN t)] ∧ m = [] ∧ t < W.n ∧ U (.d (dN (W.tie t).w)) []
theorem use_worth_in {U : Arg → List Ob → Prop} {W : Web} {t : Nat} (h : t < W.n) (k : U (.d (dN (W.tie t).w)) []) : pr_worth_in [.d (dW W), .d (dN t)] [] U := ⟨W, t, rfl, rfl, h, k⟩
theorem len_worth_in (as m W) (h : pr_worth_in as m W) : as.length = 2 := by obtain ⟨_, _, rfl, _⟩ := h; rfl
set_option hygiene false in
local macro_rules | `(tactic| walk_at "dl") => `(tactic| (repeat' (first
  | with_reducible refine wx_op ?_ | with_reducible refine wx_int ?_ | with_reducible refine wx_bl ?_ | with_reducible refine wx_non ?_ | with_reducible refine wa_cons ?_ | with_reducible refine wa_nil ?_
  | ((with_reducible apply wx_var); focus exact rfl)
  | with_reducible refine wx_tup ?_ | with_reducible refine wx_cb ?_ | with_reducible refine wx_neg ?_ | with_reducible refine wx_lst0 ?_
  | with_reducible refine ws_ret ?_ | with_reducible refine ws_seq ?_ | with_reducible refine ws_asg ?_ | with_reducible refine ws_drop ?_ | with_reducible refine ws_next ?_ | with_reducible refine ws_if ?_ | with_reducible refine ws_par ?_
  | with_reducible refine wt_test ?_ | with_reducible refine wt_b ?_ | with_reducible refine wt_not ?_ | with_reducible refine wt_and ?_ | with_reducible refine wt_or ?_
  | with_reducible refine wg_name ?_ | with_reducible refine wg_tup2 ?_ | with_reducible refine wg_tup3 ?_
  | with_reducible refine wr_i0 ?_ | with_reducible refine wr_b0 ?_ | with_reducible refine wr_eqI ?_ | with_reducible refine wr_neI ?_ | with_reducible refine wr_i ?_ ?_
  | ((with_reducible apply wr_ixT); focus exact rfl)
  | with_reducible refine wc_abs ?_ | with_reducible refine wc_lenM ?_ | with_reducible refine wc_lenT ?_ | with_reducible refine wc_max2 ?_ | with_reducible refine wc_min2 ?_ | with_reducible refine wc_intB ?_
  | with_reducible refine ⟨_, rfl, ?_⟩ | with_reducible refine ⟨_, _, rfl, ?_⟩
  | with_reducible refine ⟨[_], map1, len1, ?_⟩ | with_reducible refine ⟨[_, _], map2, len2, ?_⟩ | with_reducible refine ⟨[_, _, _], map3, len3, ?_⟩ | with_reducible refine ⟨[_, _, _, _], map4, len4, ?_⟩ | with_reducible refine ⟨[], map0, len0, ?_⟩
  | with_reducible refine wx_lcT ?_ | with_reducible refine wx_lcT2 ?_ | with_reducible refine wx_lcL ?_ | with_reducible refine wx_lcR ?_ | with_reducible refine wx_lcE ?_ | with_reducible refine wx_cut2 ?_ | with_reducible refine wx_cut_2 ?_ | with_reducible refine wt_yes ?_
  | with_reducible refine ws_forT ?_ | with_reducible refine ws_forL ?_ | with_reducible refine ws_forV ?_ | with_reducible refine ws_forR ?_ | with_reducible refine ws_forE ?_ | with_reducible refine ws_forZ ?_
  | with_reducible refine wr_inN ?_ | with_reducible refine wr_inN2 ?_ | ((with_reducible apply wr_ixT); focus exact tie_at (by assumption)) | ((with_reducible apply wr_ixT); focus exact pat_at (by assumption))
  | with_reducible refine wc_tupZ ?_ | with_reducible refine wc_lenZ ?_ | with_reducible refine wc_allZ ?_ | with_reducible refine wc_sumZ ?_ | with_reducible refine wc_sortTN ?_ | with_reducible refine wc_sortLK ?_
  | ((with_reducible refine wr_catN ?_ ?_); focus (first | omega | skip)) | ((with_reducible refine wr_catN1 ?_ ?_); focus (first | omega | skip)) | ((with_reducible refine wr_catN2 ?_ ?_); focus (first | omega | skip))
  | with_reducible refine ⟨_, _, _, rfl, ?_⟩ | with_reducible refine ⟨_, _, _, _, rfl, ?_⟩
  | with_reducible refine wr_catT (xs := [_, _]) (ys := [_]) cat21 ?_ | with_reducible refine wr_catT (xs := [_, _]) (ys := [_, _]) cat22 ?_
  | with_reducible refine ⟨rfl, ?_⟩
  | assumption
  | fail)))

theorem ok_ends_of (T : Txt K mg)  : FnOk P w K mg base CX0 1 T.ends_of.f T.ends_of.fd ["web", "tie"] (spD P w K pr_ends_of) := by
  refine fnD T.ends_of.F sc_ends_of len_ends_of (fun cdv Ar outer s H E hr => ⟨_, (pss_one (ps_ret (pe_slice (show SlR _ (rSlA K) from sl_tupA) (pe_ix (show IxR _ (rIxT K) from ix_tup) (pe_ix (show IxR _ (rIxT K) from ix_tup) (pv 0) pe_int (fun _ _ => rfl)) (pv 1) (fun _ _ => rfl)) po_none (po_some pe_int)))), fun as m W h => ?_⟩)
  try dsimp only [cxOf, Cx.nox, Cx.wish]
  obtain ⟨W', t, rfl, rfl, ht, k⟩ := h
  walk_at "dl"
  exact ⟨_, k, List.nil_sublist _⟩
theorem ok_chance_in (T : Txt K mg)  : FnOk P w K mg base CX0 1 T.chance_in.f T.chance_in.fd ["web", "tie"] (spD P w K pr_chance_in) := by
  refine fnD T.chance_in.F sc_chance_in len_chance_in (fun cdv Ar outer s H E hr => ⟨_, (pss_one (ps_ret (pe_ix (show IxR _ (rIxT K) from ix_tup) (pe_ix (show IxR _ (rIxT K) from ix_tup) (pe_ix (show IxR _ (rIxT K) from ix_tup) (pv 0) pe_int (fun _ _ => rfl)) (pv 1) (fun _ _ => rfl)) pe_int (fun _ _ => rfl)))), fun as m W h => ?_⟩)
  try dsimp only [cxOf, Cx.nox, Cx.wish]
  obtain ⟨W', t, rfl, rfl, ht, k⟩ := h
  walk_at "dl"
  exact ⟨_, k, List.nil_sublist _⟩
theorem ok_worth_in (T : Txt K mg)  : FnOk P w K mg base CX0 1 T.worth_in.f T.worth_in.fd ["web", "tie"] (spD P w K pr_worth_in) := by
  refine fnD T.worth_in.F sc_worth_in len_worth_in (fun cdv Ar outer s H E hr => ⟨_, (pss_one (ps_ret (pe_ix (show IxR _ (rIxT K) from ix_tup) (pe_ix (show IxR _ (rIxT K) from ix_tup) (pe_ix (show IxR _ (rIxT K) from ix_tup) (pv 0) pe_int (fun _ _ => rfl)) (pv 1) (fun _ _ => rfl)) pe_int (fun _ _ => rfl)))), fun as m W h => ?_⟩)
  try dsimp only [cxOf, Cx.nox, Cx.wish]
  obtain ⟨W', t, rfl, rfl, ht, k⟩ := h
  walk_at "dl"
  exact ⟨_, k, List.nil_sublist _⟩
def pr_times_asked : Prom := fun as m U => ∃ (W : Web) (l : List Nat) (th : Nat), as = [.d (dW W), .d (dNs l), .d (dN th)] ∧ m = [] ∧ l.length ≤ 1000000 ∧ (∀ t ∈ l, t < W.n) ∧ U (.d (dN (Km.timesAsked W l th))) []
theorem use_times_asked {U : Arg → List Ob → Prop} {W : Web} {l : List Nat} {th : Nat} (h : l.length ≤ 1000000) (ht : ∀ t ∈ l, t < W.n) (k : U (.d (dN (Km.timesAsked W l th))) []) : pr_times_asked [.d (dW W), .d (dNs l), .d (dN th)] [] U := ⟨W, l, th, rfl, rfl, h, ht, k⟩
theorem len_times_asked (as m W) (h : pr_times_asked as m W) : as.length = 3 := by obtain ⟨_, _, _, rfl, _⟩ := h; rfl
set_option hygiene false in
local macro_rules | `(tactic| walk_at "dl") => `(tactic| (repeat' (first
  | with_reducible refine wx_op ?_ | with_reducible refine wx_int ?_ | with_reducible refine wx_bl ?_ | with_reducible refine wx_non ?_ | with_reducible refine wa_cons ?_ | with_reducible refine wa_nil ?_
  | ((with_reducible apply wx_var); focus exact rfl)
  | with_reducible refine wx_tup ?_ | with_reducible refine wx_cb ?_ | with_reducible refine wx_neg ?_ | with_reducible refine wx_lst0 ?_
  | with_reducible refine ws_ret ?_ | with_reducible refine ws_seq ?_ | with_reducible refine ws_asg ?_ | with_reducible refine ws_drop ?_ | with_reducible refine ws_next ?_ | with_reducible refine ws_if ?_ | with_reducible refine ws_par ?_
  | with_reducible refine wt_test ?_ | with_reducible refine wt_b ?_ | with_reducible refine wt_not ?_ | with_reducible refine wt_and ?_ | with_reducible refine wt_or ?_
  | with_reducible refine wg_name ?_ | with_reducible refine wg_tup2 ?_ | with_reducible refine wg_tup3 ?_
  | with_reducible refine wr_i0 ?_ | with_reducible refine wr_b0 ?_ | with_reducible refine wr_eqI ?_ | with_reducible refine wr_neI ?_ | with_reducible refine wr_i ?_ ?_
  | ((with_reducible apply wr_ixT); focus exact rfl)
  | with_reducible refine wc_abs ?_ | with_reducible refine wc_lenM ?_ | with_reducible refine wc_lenT ?_ | with_reducible refine wc_max2 ?_ | with_reducible refine wc_min2 ?_ | with_reducible refine wc_intB ?_
  | with_reducible refine ⟨_, rfl, ?_⟩ | with_reducible refine ⟨_, _, rfl, ?_⟩
  | with_reducible refine ⟨[_], map1, len1, ?_⟩ | with_reducible refine ⟨[_, _], map2, len2, ?_⟩ | with_reducible refine ⟨[_, _, _], map3, len3, ?_⟩ | with_reducible refine ⟨[_, _, _, _], map4, len4, ?_⟩ | with_reducible refine ⟨[], map0, len0, ?_⟩
  | with_reducible refine wx_lcT ?_ | with_reducible refine wx_lcT2 ?_ | with_reducible refine wx_lcL ?_ | with_reducible refine wx_lcR ?_ | with_reducible refine wx_lcE ?_ | with_reducible refine wx_cut2 ?_ | with_reducible refine wx_cut_2 ?_ | with_reducible refine wt_yes ?_
  | with_reducible refine ws_forT ?_ | with_reducible refine ws_forL ?_ | with_reducible refine ws_forV ?_ | with_reducible refine ws_forR ?_ | with_reducible refine ws_forE ?_ | with_reducible refine ws_forZ ?_
  | with_reducible refine wr_inN ?_ | with_reducible refine wr_inN2 ?_ | ((with_reducible apply wr_ixT); focus exact tie_at (by assumption)) | ((with_reducible apply wr_ixT); focus exact pat_at (by assumption))
  | with_reducible refine wc_tupZ ?_ | with_reducible refine wc_lenZ ?_ | with_reducible refine wc_allZ ?_ | with_reducible refine wc_sumZ ?_ | with_reducible refine wc_sortTN ?_ | with_reducible refine wc_sortLK ?_
  | ((with_reducible refine wr_catN ?_ ?_); focus (first | omega | skip)) | ((with_reducible refine wr_catN1 ?_ ?_); focus (first | omega | skip)) | ((with_reducible refine wr_catN2 ?_ ?_); focus (first | omega | skip))
  | with_reducible refine ⟨_, _, _, rfl, ?_⟩ | with_reducible refine ⟨_, _, _, _, rfl, ?_⟩
  | with_reducible refine wr_catT (xs := [_, _]) (ys := [_]) cat21 ?_ | with_reducible refine wr_catT (xs := [_, _]) (ys := [_, _]) cat22 ?_
  | with_reducible refine ⟨rfl, ?_⟩
  | assumption
  | with_reducible refine wx_callP (A := pr_ends_of) ?_ | with_reducible refine use_ends_of ?_ ?_
  | fail)))

theorem ok_times_asked (T : Txt K mg) (Gends_of : FnOk P w K mg base CX0 1 T.ends_of.f T.ends_of.fd ["web", "tie"] (spD P w K pr_ends_of)) : FnOk P w K mg base CX0 2 T.times_asked.f T.times_asked.fd ["web", "asked", "thing"] (spD P w K pr_times_asked) := by
  refine fnD T.times_asked.F sc_times_asked len_times_asked (fun cdv Ar outer s H E hr => ⟨_, (pss_one (ps_ret (pe_callB (show CallR _ _ (rLen K) from call_len_seq) (by rfl) T.len PySem.boot_len (pa_cons (pe_lc (own := [("tie", 3)]) rfl sc_times_asked.nd (show PI _ _ _ (iTup K _) from pi_tup (pv 1)) (blkOk_by (N := N_times_asked) (sc := defScope s_times_asked) (by decide +kernel)) (fun _ _ _ _ _ =>  (pg_name (i := 3) sc_times_asked.nd rfl (by first | exact Or.inl rfl | exact Or.inr rfl))) (fun _ _ _ _ _ =>  pts_one (pt_cmpR (show OpR _ _ (rIn K false) from op_in_seq) (pv 2) (pe_call Gends_of (hr.mono (by decide)) rfl T.ends_of.g T.ends_of.F.kp T.ends_of.b .nil pass0 (pa_cons (pv 0) (pa_cons (pv 3) pa_nil))) (by rfl))) (fun _ _ _ _ _ =>  (pv 3))) pa_nil)))), fun as m W h => ?_⟩)
  try dsimp only [cxOf, Cx.nox, Cx.wish]
  obtain ⟨W', l, th, rfl, rfl, hl, hlt, k⟩ := h
  walk_at "dl"
  refine ⟨Nat, 0, l, dN, rfl, by decide, hl, fun t => (W'.ends t).contains th, fun t => .d (dN t), fun t ob htl => ?_, fun p => ?_⟩
  · have ht := hlt t htl
    walk_at "dl"
    refine ⟨fun _ => ?_, fun _ => List.prefix_refl _⟩
    walk_at "dl"
    exact List.prefix_refl _
  · walk_at "dl"
    rw [List.length_map]
    exact ⟨_, k, List.nil_sublist _⟩
def pr_may_ask : Prom := fun as m U => ∃ (W : Web) (s : Stand) (t : Nat), as = [.d (dW W), .d (dS s), .d (dN t)] ∧ m = [] ∧ WebOk W ∧ Km.SP W s ∧ t < W.n ∧ U (.d (.bl (Km.mayAsk W s t))) []
theorem use_may_ask {U : Arg → List Ob → Prop} {W : Web} {s : Stand} {t : Nat} (hW : WebOk W) (hs : Km.SP W s) (h : t < W.n) (k : U (.d (.bl (Km.mayAsk W s t))) []) : pr_may_ask [.d (dW W), .d (dS s), .d (dN t)] [] U := ⟨W, s, t, rfl, rfl, hW, hs, h, k⟩
theorem len_may_ask (as m W) (h : pr_may_ask as m W) : as.length = 3 := by obtain ⟨_, _, _, rfl, _⟩ := h; rfl
theorem end_pat {W : Web} (hW : WebOk W) {t th : Nat} (ht : t < W.n) (h : th ∈ W.ends t) : th < W.pat.length := by
  have ht' : t < W.ties.length := ht
  have e : W.tie t = W.ties[t]'ht' := (List.getElem_eq_getD _).symm
  have hT := hW.ties _ (List.getElem_mem ht')
  rw [← e] at hT
  rw [hW.pat]
  unfold Web.ends at h
  simp at h
  rcases h with rfl | rfl
  · exact hT.a
  · exact hT.b
theorem web5 {W : Web} (hW : WebOk W) : W.n ≤ 5 := hW.few
theorem may_no1 {W : Web} {s : Stand} {t : Nat} (h : s.1.contains t = true) : Km.mayAsk W s t = false := by unfold Km.mayAsk; rw [h]; rfl
theorem may_no2 {W : Web} {s : Stand} {t : Nat} (h : decide ((W.asks : Int) ≤ (s.1.length : Int)) = true) : Km.mayAsk W s t = false := by
  have h' : (W.asks : Int) ≤ (s.1.length : Int) := of_decide_eq_true h
  unfold Km.mayAsk
  rw [decide_eq_true (show s.1.length ≥ W.asks by omega), Bool.or_true]; rfl
theorem may_go {W : Web} {s : Stand} {t : Nat} (h1 : s.1.contains t = false) (h : decide ((W.asks : Int) ≤ (s.1.length : Int)) = false) : Km.mayAsk W s t = (W.ends t).all (Km.thingOk W s) := by
  have h' : ¬ (W.asks : Int) ≤ (s.1.length : Int) := of_decide_eq_false h
  unfold Km.mayAsk
  rw [h1, decide_eq_false (show ¬ s.1.length ≥ W.asks by omega)]; rfl
theorem all_take {α : Type} {f : α → Bool} {l : List α} {i : Nat} {a : α} (ha : l[i]? = some a) : (l.take (i + 1)).all f = ((l.take i).all f && f a) := by
  rw [List.take_add_one, ha, List.all_append]
  simp
theorem thing_no1 {W : Web} {s : Stand} {th : Nat} (h : s.2.contains th = true) : Km.thingOk W s th = false := by unfold Km.thingOk; rw [h]; rfl
theorem thing_eq {W : Web} {s : Stand} {th : Nat} (h : s.2.contains th = false) : Km.thingOk W s th = !decide (((W.pat.getD th 0 : Nat) : Int) ≤ (Km.timesAsked W s.1 th : Int)) := by
  unfold Km.thingOk
  rw [h, Bool.false_or]
  congr 1
  exact decide_eq_decide.mpr (by omega)
theorem all_false {α : Type} {f : α → Bool} {l : List α} {a : α} (h : a ∈ l) (hf : f a = false) : l.all f = false := by
  rw [List.all_eq_false]
  exact ⟨a, h, by rw [hf]; decide⟩
set_option hygiene false in
local macro_rules | `(tactic| walk_at "dl") => `(tactic| (repeat' (first
  | with_reducible refine wx_op ?_ | with_reducible refine wx_int ?_ | with_reducible refine wx_bl ?_ | with_reducible refine wx_non ?_ | with_reducible refine wa_cons ?_ | with_reducible refine wa_nil ?_
  | ((with_reducible apply wx_var); focus exact rfl)
  | with_reducible refine wx_tup ?_ | with_reducible refine wx_cb ?_ | with_reducible refine wx_neg ?_ | with_reducible refine wx_lst0 ?_
  | with_reducible refine ws_ret ?_ | with_reducible refine ws_seq ?_ | with_reducible refine ws_asg ?_ | with_reducible refine ws_drop ?_ | with_reducible refine ws_next ?_ | with_reducible refine ws_if ?_ | with_reducible refine ws_par ?_
  | with_reducible refine wt_test ?_ | with_reducible refine wt_b ?_ | with_reducible refine wt_not ?_ | with_reducible refine wt_and ?_ | with_reducible refine wt_or ?_
  | with_reducible refine wg_name ?_ | with_reducible refine wg_tup2 ?_ | with_reducible refine wg_tup3 ?_
  | with_reducible refine wr_i0 ?_ | with_reducible refine wr_b0 ?_ | with_reducible refine wr_eqI ?_ | with_reducible refine wr_neI ?_ | with_reducible refine wr_i ?_ ?_
  | ((with_reducible apply wr_ixT); focus exact rfl)
  | with_reducible refine wc_abs ?_ | with_reducible refine wc_lenM ?_ | with_reducible refine wc_lenT ?_ | with_reducible refine wc_max2 ?_ | with_reducible refine wc_min2 ?_ | with_reducible refine wc_intB ?_
  | with_reducible refine ⟨_, rfl, ?_⟩ | with_reducible refine ⟨_, _, rfl, ?_⟩
  | with_reducible refine ⟨[_], map1, len1, ?_⟩ | with_reducible refine ⟨[_, _], map2, len2, ?_⟩ | with_reducible refine ⟨[_, _, _], map3, len3, ?_⟩ | with_reducible refine ⟨[_, _, _, _], map4, len4, ?_⟩ | with_reducible refine ⟨[], map0, len0, ?_⟩
  | with_reducible refine wx_lcT ?_ | with_reducible refine wx_lcT2 ?_ | with_reducible refine wx_lcL ?_ | with_reducible refine wx_lcR ?_ | with_reducible refine wx_lcE ?_ | with_reducible refine wx_cut2 ?_ | with_reducible refine wx_cut_2 ?_ | with_reducible refine wt_yes ?_
  | with_reducible refine ws_forT ?_ | with_reducible refine ws_forL ?_ | with_reducible refine ws_forV ?_ | with_reducible refine ws_forR ?_ | with_reducible refine ws_forE ?_ | with_reducible refine ws_forZ ?_
  | with_reducible refine wr_inN ?_ | with_reducible refine wr_inN2 ?_ | ((with_reducible apply wr_ixT); focus exact tie_at (by assumption)) | ((with_reducible apply wr_ixT); focus exact pat_at (by assumption))
  | with_reducible refine wc_tupZ ?_ | with_reducible refine wc_lenZ ?_ | with_reducible refine wc_allZ ?_ | with_reducible refine wc_sumZ ?_ | with_reducible refine wc_sortTN ?_ | with_reducible refine wc_sortLK ?_
  | ((with_reducible refine wr_catN ?_ ?_); focus (first | omega | skip)) | ((with_reducible refine wr_catN1 ?_ ?_); focus (first | omega | skip)) | ((with_reducible refine wr_catN2 ?_ ?_); focus (first | omega | skip))
  | with_reducible refine ⟨_, _, _, rfl, ?_⟩ | with_reducible refine ⟨_, _, _, _, rfl, ?_⟩
  | with_reducible refine wr_catT (xs := [_, _]) (ys := [_]) cat21 ?_ | with_reducible refine wr_catT (xs := [_, _]) (ys := [_, _]) cat22 ?_
  | with_reducible refine ⟨rfl, ?_⟩
  | assumption
  | with_reducible refine wx_callP (A := pr_ends_of) ?_ | with_reducible refine use_ends_of ?_ ?_
  | with_reducible refine wx_callP (A := pr_times_asked) ?_ | with_reducible refine use_times_asked ?_ ?_ ?_
  | fail)))

theorem ok_may_ask (T : Txt K mg) (Gends_of : FnOk P w K mg base CX0 1 T.ends_of.f T.ends_of.fd ["web", "tie"] (spD P w K pr_ends_of)) (Gtimes_asked : FnOk P w K mg base CX0 2 T.times_asked.f T.times_asked.fd ["web", "asked", "thing"] (spD P w K pr_times_asked)) : FnOk P w K mg base CX0 3 T.may_ask.f T.may_ask.fd ["web", "stand", "tie"] (spD P w K pr_may_ask) := by
  refine fnD T.may_ask.F sc_may_ask len_may_ask (fun cdv Ar outer s H E hr => ⟨_, (pss_cons (ps_asg (pv 1) (show PG _ _ (gTup K 2 _) from pg_tup (n := 2) rfl (pgs_cons (pg_name (i := 3) sc_may_ask.nd rfl (by first | exact Or.inl rfl | exact Or.inr rfl)) (pgs_cons (pg_name (i := 4) sc_may_ask.nd rfl (by first | exact Or.inl rfl | exact Or.inr rfl)) pgs_nil))))
    (pss_cons (ps_if (PW.pt (pw_or (pt_cmpR (show OpR _ _ (rIn K false) from op_in_seq) (pv 2) (pv 3) (by rfl)) (pw_or1 (pt_cmpR op_ge (pe_callB (show CallR _ _ (rLen K) from call_len_seq) (by rfl) T.len PySem.boot_len (pa_cons (pv 3) pa_nil)) (pe_ix (show IxR _ (rIxT K) from ix_tup) (pv 0) pe_int (fun _ _ => rfl)) (nomark _))))) (pss_one (ps_ret pe_bl)) pss_nil)
    (pss_cons (ps_for PassesOwn.never rfl (show PI _ _ _ (iTup K _) from pi_tup (pe_call Gends_of (hr.mono (by decide)) rfl T.ends_of.g T.ends_of.F.kp T.ends_of.b .nil pass0 (pa_cons (pv 0) (pa_cons (pv 2) pa_nil)))) (pg_name (i := 5) sc_may_ask.nd rfl (by first | exact Or.inl rfl | exact Or.inr rfl))
    (pss_one (ps_if (PW.pt (pw_or (pt_cmpR (show OpR _ _ (rIn K false) from op_in_seq) (pv 5) (pv 4) (by rfl)) (pw_or1 (pt_cmpR op_ge (pe_call Gtimes_asked (hr.mono (by decide)) rfl T.times_asked.g T.times_asked.F.kp T.times_asked.b .nil pass0 (pa_cons (pv 0) (pa_cons (pv 3) (pa_cons (pv 5) pa_nil)))) (pe_ix (show IxR _ (rIxT K) from ix_tup) (pe_ix (show IxR _ (rIxT K) from ix_tup) (pv 0) pe_int (fun _ _ => rfl)) (pv 5) (fun _ _ => rfl)) (nomark _))))) (pss_one (ps_ret pe_bl)) pss_nil)))
    (pss_one (ps_ret pe_bl))))), fun as m W h => ?_⟩)
  try dsimp only [cxOf, Cx.nox, Cx.wish]
  obtain ⟨W', s', t, rfl, rfl, hW, hs, ht, k⟩ := h
  have h5 := web5 hW
  have hl := hs.len
  walk_at "dl"
  refine ⟨fun h1 => ⟨fun _ => ?_, fun h => nomatch h⟩, fun h1 => ?_⟩
  · walk_at "dl"
    refine ⟨_, ?_, List.nil_sublist _⟩
    rw [may_no1 h1] at k
    exact k
  walk_at "dl"
  refine ⟨fun h2 => ?_, fun h2 => ?_⟩
  · walk_at "dl"
    refine ⟨_, ?_, List.nil_sublist _⟩
    rw [may_no2 h2] at k
    exact k
  walk_at "dl"
  rw [may_go h1 h2] at k
  refine ⟨Nat, 0, W'.ends t, dN, rfl, fun i S' => ((W'.ends t).take i).all (Km.thingOk W' s') = true ∧ ∃ o, S' = ⟨[some (.d (dW W')), some (.d (dS s')), some (.d (dN t)), some (.d (dNs s'.1)), some (.d (dNs s'.2)), o], []⟩, ⟨rfl, none, rfl⟩, ?_, ?_⟩
  · rintro i th S' hth ⟨hall, o, rfl⟩
    have hmem : th ∈ W'.ends t := List.mem_of_getElem? hth
    have hp := end_pat hW ht hmem
    walk_at "dl"
    refine ⟨fun h3 => ⟨fun _ => ?_, fun h => nomatch h⟩, fun h3 => ?_⟩
    · walk_at "dl"
      refine ⟨_, ?_, List.nil_sublist _⟩
      rw [all_false hmem (thing_no1 h3)] at k
      exact k
    walk_at "dl"
    · omega
    · exact hs.lt
    refine ⟨fun h4 => ?_, fun h4 => ?_⟩
    · walk_at "dl"
      refine ⟨_, ?_, List.nil_sublist _⟩
      rw [all_false hmem (by rw [thing_eq h3, h4]; rfl)] at k
      exact k
    · walk_at "dl"
      refine ⟨_, Le.refl _, by rw [all_take hth, hall, thing_eq h3, h4]; rfl, _, rfl⟩
  · rintro S' ⟨hall, o, rfl⟩
    rw [List.take_length] at hall
    rw [hall] at k
    walk_at "dl"
    exact ⟨_, k, List.nil_sublist _⟩
/-! ### what may be asked -/
def pr_askable : Prom := fun as m U => ∃ (W : Web) (s : Stand), as = [.d (dW W), .d (dS s)] ∧ m = [] ∧ WebOk W ∧ Km.SP W s ∧ ∀ p, U (.a p) [(p, .lst ((Km.askable W s).map fun t => .d (dN t)), true)]
theorem use_askable {U : Arg → List Ob → Prop} {W : Web} {s : Stand} (hW : WebOk W) (hs : Km.SP W s) (k : ∀ p, U (.a p) [(p, .lst ((Km.askable W s).map fun t => .d (dN t)), true)]) : pr_askable [.d (dW W), .d (dS s)] [] U := ⟨W, s, rfl, rfl, hW, hs, k⟩
theorem use_askableW {U : Arg → List Ob → Prop} {W : Web} {s : Wide} (hW : WebOk W) (hs : Km.SP W (Km.Wide.st s)) (k : ∀ p, U (.a p) [(p, .lst ((Km.askable W (Km.Wide.st s)).map fun t => .d (dN t)), true)]) : pr_askable [.d (dW W), .d (.tup [dNs s.1, dNs s.2.1])] [] U := ⟨W, Km.Wide.st s, rfl, rfl, hW, hs, k⟩
theorem len_askable (as m W) (h : pr_askable as m W) : as.length = 2 := by obtain ⟨_, _, rfl, _⟩ := h; rfl
set_option hygiene false in
local macro_rules | `(tactic| walk_at "dl") => `(tactic| (repeat' (first
  | with_reducible refine wx_op ?_ | with_reducible refine wx_int ?_ | with_reducible refine wx_bl ?_ | with_reducible refine wx_non ?_ | with_reducible refine wa_cons ?_ | with_reducible refine wa_nil ?_
  | ((with_reducible apply wx_var); focus exact rfl)
  | with_reducible refine wx_tup ?_ | with_reducible refine wx_cb ?_ | with_reducible refine wx_neg ?_ | with_reducible refine wx_lst0 ?_
  | with_reducible refine ws_ret ?_ | with_reducible refine ws_seq ?_ | with_reducible refine ws_asg ?_ | with_reducible refine ws_drop ?_ | with_reducible refine ws_next ?_ | with_reducible refine ws_if ?_ | with_reducible refine ws_par ?_
  | with_reducible refine wt_test ?_ | with_reducible refine wt_b ?_ | with_reducible refine wt_not ?_ | with_reducible refine wt_and ?_ | with_reducible refine wt_or ?_
  | with_reducible refine wg_name ?_ | with_reducible refine wg_tup2 ?_ | with_reducible refine wg_tup3 ?_
  | with_reducible refine wr_i0 ?_ | with_reducible refine wr_b0 ?_ | with_reducible refine wr_eqI ?_ | with_reducible refine wr_neI ?_ | with_reducible refine wr_i ?_ ?_
  | ((with_reducible apply wr_ixT); focus exact rfl)
  | with_reducible refine wc_abs ?_ | with_reducible refine wc_lenM ?_ | with_reducible refine wc_lenT ?_ | with_reducible refine wc_max2 ?_ | with_reducible refine wc_min2 ?_ | with_reducible refine wc_intB ?_
  | with_reducible refine ⟨_, rfl, ?_⟩ | with_reducible refine ⟨_, _, rfl, ?_⟩
  | with_reducible refine ⟨[_], map1, len1, ?_⟩ | with_reducible refine ⟨[_, _], map2, len2, ?_⟩ | with_reducible refine ⟨[_, _, _], map3, len3, ?_⟩ | with_reducible refine ⟨[_, _, _, _], map4, len4, ?_⟩ | with_reducible refine ⟨[], map0, len0, ?_⟩
  | with_reducible refine wx_lcT ?_ | with_reducible refine wx_lcT2 ?_ | with_reducible refine wx_lcL ?_ | with_reducible refine wx_lcR ?_ | with_reducible refine wx_lcE ?_ | with_reducible refine wx_cut2 ?_ | with_reducible refine wx_cut_2 ?_ | with_reducible refine wt_yes ?_
  | with_reducible refine ws_forT ?_ | with_reducible refine ws_forL ?_ | with_reducible refine ws_forV ?_ | with_reducible refine ws_forR ?_ | with_reducible refine ws_forE ?_ | with_reducible refine ws_forZ ?_
  | with_reducible refine wr_inN ?_ | with_reducible refine wr_inN2 ?_ | ((with_reducible apply wr_ixT); focus exact tie_at (by assumption)) | ((with_reducible apply wr_ixT); focus exact pat_at (by assumption))
  | with_reducible refine wc_tupZ ?_ | with_reducible refine wc_lenZ ?_ | with_reducible refine wc_allZ ?_ | with_reducible refine wc_sumZ ?_ | with_reducible refine wc_sortTN ?_ | with_reducible refine wc_sortLK ?_
  | ((with_reducible refine wr_catN ?_ ?_); focus (first | omega | skip)) | ((with_reducible refine wr_catN1 ?_ ?_); focus (first | omega | skip)) | ((with_reducible refine wr_catN2 ?_ ?_); focus (first | omega | skip))
  | with_reducible refine ⟨_, _, _, rfl, ?_⟩ | with_reducible refine ⟨_, _, _, _, rfl, ?_⟩
  | with_reducible refine wr_catT (xs := [_, _]) (ys := [_]) cat21 ?_ | with_reducible refine wr_catT (xs := [_, _]) (ys := [_, _]) cat22 ?_
  | with_reducible refine ⟨rfl, ?_⟩
  | assumption
  | with_reducible refine wx_callP (A := pr_may_ask) ?_ | with_reducible refine use_may_ask ?_ ?_ ?_ ?_
  | fail)))

theorem ok_askable (T : Txt K mg) (Gmay_ask : FnOk P w K mg base CX0 3 T.may_ask.f T.may_ask.fd ["web", "stand", "tie"] (spD P w K pr_may_ask)) : FnOk P w K mg base CX0 4 T.askable.f T.askable.fd ["web", "stand"] (spD P w K pr_askable) := by
  refine fnD T.askable.F sc_askable len_askable (fun cdv Ar outer s H E hr => ⟨_, (pss_one (ps_ret (pe_lc (own := [("tie", 2)]) rfl sc_askable.nd (pi_range1 rfl T.range (pa_cons (pe_callB (show CallR _ _ (rLen K) from call_len_seq) (by rfl) T.len PySem.boot_len (pa_cons (pe_ix (show IxR _ (rIxT K) from ix_tup) (pv 0) pe_int (fun _ _ => rfl)) pa_nil)) pa_nil)) (blkOk_by (N := N_askable) (sc := defScope s_askable) (by decide +kernel)) (fun _ _ _ _ _ =>  (pg_name (i := 2) sc_askable.nd rfl (by first | exact Or.inl rfl | exact Or.inr rfl))) (fun _ _ _ _ _ =>  pts_one (pt_val (pe_call Gmay_ask (hr.mono (by decide)) rfl T.may_ask.g T.may_ask.F.kp T.may_ask.b .nil pass0 (pa_cons (pv 0) (pa_cons (pv 1) (pa_cons (pv 2) pa_nil)))))) (fun _ _ _ _ _ =>  (pv 2))))), fun as m W h => ?_⟩)
  try dsimp only [cxOf, Cx.nox, Cx.wish]
  obtain ⟨W', s', rfl, rfl, hW, hs, k⟩ := h
  have h5 := web5 hW
  walk_at "dl"
  refine ⟨by decide, show W'.n ≤ 1000000 by omega, Km.mayAsk W' s', fun t => .d (dN t), fun t ob ht => ?_, fun p => ?_⟩
  · walk_at "dl"
    refine ⟨fun _ => ?_, fun _ => List.prefix_refl _⟩
    walk_at "dl"
    exact List.prefix_refl _
  · exact ⟨_, k p, List.Sublist.refl _⟩
/-! ### stands behind an ask -/
def pr_stand_behind : Prom := fun as m U => ∃ (W : Web) (s : Stand) (t : Nat) (b : Bool), as = [.d (dW W), .d (dS s), .d (dN t), .d (.bl b)] ∧ m = [] ∧ WebOk W ∧ Km.SP W s ∧ t < W.n ∧ U (.d (dS (Km.behind W s t b))) []
theorem use_stand_behind {U : Arg → List Ob → Prop} {W : Web} {s : Stand} {t : Nat} {b : Bool} (hW : WebOk W) (hs : Km.SP W s) (h : t < W.n) (k : U (.d (dS (Km.behind W s t b))) []) : pr_stand_behind [.d (dW W), .d (dS s), .d (dN t), .d (.bl b)] [] U := ⟨W, s, t, b, rfl, rfl, hW, hs, h, k⟩
theorem use_stand_behindW {U : Arg → List Ob → Prop} {W : Web} {s : Wide} {t : Nat} {b : Bool} (hW : WebOk W) (hs : Km.SP W (Km.Wide.st s)) (h : t < W.n) (k : U (.d (dS (Km.behind W (Km.Wide.st s) t b))) []) : pr_stand_behind [.d (dW W), .d (.tup [dNs s.1, dNs s.2.1]), .d (dN t), .d (.bl b)] [] U := ⟨W, Km.Wide.st s, t, b, rfl, rfl, hW, hs, h, k⟩
theorem len_stand_behind (as m W) (h : pr_stand_behind as m W) : as.length = 4 := by obtain ⟨_, _, _, _, rfl, _⟩ := h; rfl
set_option hygiene false in
local macro_rules | `(tactic| walk_at "dl") => `(tactic| (repeat' (first
  | with_reducible refine wx_op ?_ | with_reducible refine wx_int ?_ | with_reducible refine wx_bl ?_ | with_reducible refine wx_non ?_ | with_reducible refine wa_cons ?_ | with_reducible refine wa_nil ?_
  | ((with_reducible apply wx_var); focus exact rfl)
  | with_reducible refine wx_tup ?_ | with_reducible refine wx_cb ?_ | with_reducible refine wx_neg ?_ | with_reducible refine wx_lst0 ?_
  | with_reducible refine ws_ret ?_ | with_reducible refine ws_seq ?_ | with_reducible refine ws_asg ?_ | with_reducible refine ws_drop ?_ | with_reducible refine ws_next ?_ | with_reducible refine ws_if ?_ | with_reducible refine ws_par ?_
  | with_reducible refine wt_test ?_ | with_reducible refine wt_b ?_ | with_reducible refine wt_not ?_ | with_reducible refine wt_and ?_ | with_reducible refine wt_or ?_
  | with_reducible refine wg_name ?_ | with_reducible refine wg_tup2 ?_ | with_reducible refine wg_tup3 ?_
  | with_reducible refine wr_i0 ?_ | with_reducible refine wr_b0 ?_ | with_reducible refine wr_eqI ?_ | with_reducible refine wr_neI ?_ | with_reducible refine wr_i ?_ ?_
  | ((with_reducible apply wr_ixT); focus exact rfl)
  | with_reducible refine wc_abs ?_ | with_reducible refine wc_lenM ?_ | with_reducible refine wc_lenT ?_ | with_reducible refine wc_max2 ?_ | with_reducible refine wc_min2 ?_ | with_reducible refine wc_intB ?_
  | with_reducible refine ⟨_, rfl, ?_⟩ | with_reducible refine ⟨_, _, rfl, ?_⟩
  | with_reducible refine ⟨[_], map1, len1, ?_⟩ | with_reducible refine ⟨[_, _], map2, len2, ?_⟩ | with_reducible refine ⟨[_, _, _], map3, len3, ?_⟩ | with_reducible refine ⟨[_, _, _, _], map4, len4, ?_⟩ | with_reducible refine ⟨[], map0, len0, ?_⟩
  | with_reducible refine wx_lcT ?_ | with_reducible refine wx_lcT2 ?_ | with_reducible refine wx_lcL ?_ | with_reducible refine wx_lcR ?_ | with_reducible refine wx_lcE ?_ | with_reducible refine wx_cut2 ?_ | with_reducible refine wx_cut_2 ?_ | with_reducible refine wt_yes ?_
  | with_reducible refine ws_forT ?_ | with_reducible refine ws_forL ?_ | with_reducible refine ws_forV ?_ | with_reducible refine ws_forR ?_ | with_reducible refine ws_forE ?_ | with_reducible refine ws_forZ ?_
  | with_reducible refine wr_inN ?_ | with_reducible refine wr_inN2 ?_ | ((with_reducible apply wr_ixT); focus exact tie_at (by assumption)) | ((with_reducible apply wr_ixT); focus exact pat_at (by assumption))
  | with_reducible refine wc_tupZ ?_ | with_reducible refine wc_lenZ ?_ | with_reducible refine wc_allZ ?_ | with_reducible refine wc_sumZ ?_ | with_reducible refine wc_sortTN ?_ | with_reducible refine wc_sortLK ?_
  | ((with_reducible refine wr_catN ?_ ?_); focus (first | omega | skip)) | ((with_reducible refine wr_catN1 ?_ ?_); focus (first | omega | skip)) | ((with_reducible refine wr_catN2 ?_ ?_); focus (first | omega | skip))
  | with_reducible refine ⟨_, _, _, rfl, ?_⟩ | with_reducible refine ⟨_, _, _, _, rfl, ?_⟩
  | with_reducible refine wr_catT (xs := [_, _]) (ys := [_]) cat21 ?_ | with_reducible refine wr_catT (xs := [_, _]) (ys := [_, _]) cat22 ?_
  | with_reducible refine ⟨rfl, ?_⟩
  | assumption
  | with_reducible refine wx_callP (A := pr_ends_of) ?_ | with_reducible refine use_ends_of ?_ ?_
  | fail)))

theorem ok_stand_behind (T : Txt K mg) (Gends_of : FnOk P w K mg base CX0 1 T.ends_of.f T.ends_of.fd ["web", "tie"] (spD P w K pr_ends_of)) : FnOk P w K mg base CX0 2 T.stand_behind.f T.stand_behind.fd ["web", "stand", "tie", "truth"] (spD P w K pr_stand_behind) := by
  refine fnD T.stand_behind.F sc_stand_behind len_stand_behind (fun cdv Ar outer s H E hr => ⟨_, (pss_cons (ps_asg (pv 1) (show PG _ _ (gTup K 2 _) from pg_tup (n := 2) rfl (pgs_cons (pg_name (i := 4) sc_stand_behind.nd rfl (by first | exact Or.inl rfl | exact Or.inr rfl)) (pgs_cons (pg_name (i := 5) sc_stand_behind.nd rfl (by first | exact Or.inl rfl | exact Or.inr rfl)) pgs_nil))))
    (pss_cons (ps_if (pt_val (pv 3)) (pss_one (ps_set (i := 5) sc_stand_behind.nd rfl (by first | exact Or.inl rfl | exact Or.inr rfl) (pe_callTy (show CallR _ _ (rTupOf K) from call_tuple_of) (by rfl) T.tuple PyProof.Rows.boot_tuple (pa_cons (pe_callB (show CallR _ _ (rSortD K) from cr_sortD hr.units) (by rfl) T.sorted PyProof.Rows.boot_sorted (pa_cons (pe_op (show OpR _ _ (rCatA K) from op_catA) (pv 5) (pe_call Gends_of (hr.mono (by decide)) rfl T.ends_of.g T.ends_of.F.kp T.ends_of.b .nil pass0 (pa_cons (pv 0) (pa_cons (pv 2) pa_nil)))) pa_nil)) pa_nil)))) pss_nil)
    (pss_one (ps_ret (pe_tup (pa_cons (pe_callTy (show CallR _ _ (rTupOf K) from call_tuple_of) (by rfl) T.tuple PyProof.Rows.boot_tuple (pa_cons (pe_callB (show CallR _ _ (rSortD K) from cr_sortD hr.units) (by rfl) T.sorted PyProof.Rows.boot_sorted (pa_cons (pe_op (show OpR _ _ (rCatA K) from op_catA) (pv 4) (pe_tup (pa_cons (pv 2) pa_nil))) pa_nil)) pa_nil)) (pa_cons (pv 5) pa_nil))))))), fun as m W h => ?_⟩)
  try dsimp only [cxOf, Cx.nox, Cx.wish]
  obtain ⟨W', s', t, b, rfl, rfl, hW, hs, ht, k⟩ := h
  have h5 := web5 hW
  have hl := hs.len
  have hl2 := hs.tlen
  walk_at "dl"
  refine ⟨fun hc => ?_, fun hc => ?_⟩ <;> subst hc
  · walk_at "dl"
    · show s'.2.length + 2 ≤ 1000000
      omega
    intro q
    walk_at "dl"
    intro q
    walk_at "dl"
    exact ⟨_, k, List.nil_sublist _⟩
  · walk_at "dl"
    intro q
    walk_at "dl"
    exact ⟨_, k, List.nil_sublist _⟩
/-! ### groups -/
theorem first_idx (G : Groups) (t : Nat) (h : Km.groupOf G t < G.length) : ((List.range G.length).filter fun i => (G.getD i []).contains t)[0]? = some (Km.groupOf G t) := by
  rw [← List.head?_eq_getElem?, List.head?_filter, List.find?_range_eq_some]
  refine ⟨?_, List.mem_range.mpr h, fun j hj => ?_⟩
  · have := List.findIdx_getElem (p := fun g : List Nat => g.contains t) (xs := G) (w := h)
    rw [← List.getElem_eq_getD [] (h := h)]
    exact this
  · have := List.not_of_lt_findIdx (p := fun g : List Nat => g.contains t) (xs := G) hj
    rw [← List.getElem_eq_getD [] (h := Nat.lt_trans hj h)]
    simpa using this
def pr_group_of : Prom := fun as m U => ∃ (G : Groups) (t : Nat), as = [.d (dG G), .d (dN t)] ∧ m = [] ∧ G.length ≤ 1000 ∧ Km.groupOf G t < G.length ∧ U (.d (dN (Km.groupOf G t))) []
theorem use_group_of {U : Arg → List Ob → Prop} {G : Groups} {t : Nat} (hl : G.length ≤ 1000) (h : Km.groupOf G t < G.length) (k : U (.d (dN (Km.groupOf G t))) []) : pr_group_of [.d (dG G), .d (dN t)] [] U := ⟨G, t, rfl, rfl, hl, h, k⟩
theorem len_group_of (as m W) (h : pr_group_of as m W) : as.length = 2 := by obtain ⟨_, _, rfl, _⟩ := h; rfl
set_option hygiene false in
local macro_rules | `(tactic| walk_at "dl") => `(tactic| (repeat' (first
  | with_reducible refine wx_op ?_ | with_reducible refine wx_int ?_ | with_reducible refine wx_bl ?_ | with_reducible refine wx_non ?_ | with_reducible refine wa_cons ?_ | with_reducible refine wa_nil ?_
  | ((with_reducible apply wx_var); focus exact rfl)
  | with_reducible refine wx_tup ?_ | with_reducible refine wx_cb ?_ | with_reducible refine wx_neg ?_ | with_reducible refine wx_lst0 ?_
  | with_reducible refine ws_ret ?_ | with_reducible refine ws_seq ?_ | with_reducible refine ws_asg ?_ | with_reducible refine ws_drop ?_ | with_reducible refine ws_next ?_ | with_reducible refine ws_if ?_ | with_reducible refine ws_par ?_
  | with_reducible refine wt_test ?_ | with_reducible refine wt_b ?_ | with_reducible refine wt_not ?_ | with_reducible refine wt_and ?_ | with_reducible refine wt_or ?_
  | with_reducible refine wg_name ?_ | with_reducible refine wg_tup2 ?_ | with_reducible refine wg_tup3 ?_
  | with_reducible refine wr_i0 ?_ | with_reducible refine wr_b0 ?_ | with_reducible refine wr_eqI ?_ | with_reducible refine wr_neI ?_ | with_reducible refine wr_i ?_ ?_
  | ((with_reducible apply wr_ixT); focus exact rfl)
  | with_reducible refine wc_abs ?_ | with_reducible refine wc_lenM ?_ | with_reducible refine wc_lenT ?_ | with_reducible refine wc_max2 ?_ | with_reducible refine wc_min2 ?_ | with_reducible refine wc_intB ?_
  | with_reducible refine ⟨_, rfl, ?_⟩ | with_reducible refine ⟨_, _, rfl, ?_⟩
  | with_reducible refine ⟨[_], map1, len1, ?_⟩ | with_reducible refine ⟨[_, _], map2, len2, ?_⟩ | with_reducible refine ⟨[_, _, _], map3, len3, ?_⟩ | with_reducible refine ⟨[_, _, _, _], map4, len4, ?_⟩ | with_reducible refine ⟨[], map0, len0, ?_⟩
  | with_reducible refine wx_lcT ?_ | with_reducible refine wx_lcT2 ?_ | with_reducible refine wx_lcL ?_ | with_reducible refine wx_lcR ?_ | with_reducible refine wx_lcE ?_ | with_reducible refine wx_cut2 ?_ | with_reducible refine wx_cut_2 ?_ | with_reducible refine wt_yes ?_
  | with_reducible refine ws_forT ?_ | with_reducible refine ws_forL ?_ | with_reducible refine ws_forV ?_ | with_reducible refine ws_forR ?_ | with_reducible refine ws_forE ?_ | with_reducible refine ws_forZ ?_
  | with_reducible refine wr_inN ?_ | with_reducible refine wr_inN2 ?_ | ((with_reducible apply wr_ixT); focus exact tie_at (by assumption)) | ((with_reducible apply wr_ixT); focus exact pat_at (by assumption))
  | with_reducible refine wc_tupZ ?_ | with_reducible refine wc_lenZ ?_ | with_reducible refine wc_allZ ?_ | with_reducible refine wc_sumZ ?_ | with_reducible refine wc_sortTN ?_ | with_reducible refine wc_sortLK ?_
  | ((with_reducible refine wr_catN ?_ ?_); focus (first | omega | skip)) | ((with_reducible refine wr_catN1 ?_ ?_); focus (first | omega | skip)) | ((with_reducible refine wr_catN2 ?_ ?_); focus (first | omega | skip))
  | with_reducible refine ⟨_, _, _, rfl, ?_⟩ | with_reducible refine ⟨_, _, _, _, rfl, ?_⟩
  | with_reducible refine wr_catT (xs := [_, _]) (ys := [_]) cat21 ?_ | with_reducible refine wr_catT (xs := [_, _]) (ys := [_, _]) cat22 ?_
  | with_reducible refine ⟨rfl, ?_⟩
  | assumption
  | fail)))

theorem ok_group_of (T : Txt K mg)  : FnOk P w K mg base CX0 1 T.group_of.f T.group_of.fd ["groups", "tie"] (spD P w K pr_group_of) := by
  refine fnD T.group_of.F sc_group_of len_group_of (fun cdv Ar outer s H E hr => ⟨_, (pss_one (ps_ret (pe_ix (show IxR _ (rIxL K) from ix_list) (pe_lc (own := [("number", 2), ("group", 3)]) rfl sc_group_of.nd (show PI _ _ _ (iEnumT K _) from pi_enumT rfl T.enumerate (pa_cons (pv 0) pa_nil)) (blkOk_by (N := N_group_of) (sc := defScope s_group_of) (by decide +kernel)) (fun _ _ _ _ _ =>  (show PG _ _ (gTup K 2 _) from pg_tup (n := 2) rfl (pgs_cons (pg_name (i := 2) sc_group_of.nd rfl (by first | exact Or.inl rfl | exact Or.inr rfl)) (pgs_cons (pg_name (i := 3) sc_group_of.nd rfl (by first | exact Or.inl rfl | exact Or.inr rfl)) pgs_nil)))) (fun _ _ _ _ _ =>  pts_one (pt_cmpR (show OpR _ _ (rIn K false) from op_in_seq) (pv 1) (pv 3) (by rfl))) (fun _ _ _ _ _ =>  (pv 2))) pe_int (fun _ _ => rfl)))), fun as m W h => ?_⟩)
  try dsimp only [cxOf, Cx.nox, Cx.wish]
  obtain ⟨G, t, rfl, rfl, hl, hg, k⟩ := h
  walk_at "dl"
  refine ⟨List Nat, [], G, dNs, rfl, by decide, by omega, fun _ g => g.contains t, fun i _ => .d (dN i), fun i g ob hi => ?_, fun p => ?_⟩
  · walk_at "dl"
    refine ⟨fun _ => ?_, fun _ => List.prefix_refl _⟩
    walk_at "dl"
    exact List.prefix_refl _
  · walk_at "dl"
    refine wr_ixZ (atI_nat (j := 0) (v := .d (dN (Km.groupOf G t))) ?_) ?_
    · rw [List.getElem?_map, first_idx G t hg]
      rfl
    · exact ⟨_, k, List.nil_sublist _⟩
end
end Dl

/-! the defs of the text: what is known of the groups -/
namespace Dl
open PySem PySem.Spec L2
open Km (Web Stand Wide Known Groups WebOk)
section
variable {P : Program} {w : World} {K : PySem.W.Frag} {mg : Str → Option Value} {base : Heap}
/-- groups that may be worked with -/
structure GrOk (W : Web) (G : Groups) : Prop where
  few : G.length ≤ 1000
  has : ∀ t, t < W.n → Km.groupOf G t < G.length
theorem told_of (G : Groups) (k : Known) (t : Nat) : (k.filter fun p => decide ((p.1 : Int) = (Km.groupOf G t : Int))).map (fun p => Arg.d (.bl p.2)) = ((Km.told G k t).map D.bl).map Arg.d := by
  unfold Km.told
  rw [List.map_map, List.map_map]
  have e : (k.filter fun p => decide ((p.1 : Int) = (Km.groupOf G t : Int))) = k.filter fun p => p.1 == Km.groupOf G t := List.filter_congr fun p _ => by
    rw [Bool.eq_iff_iff, decide_eq_true_iff, beq_iff_eq]
    omega
  rw [e]
  rfl
def pr_truths_of : Prom := fun as m U => ∃ (G : Groups) (s : Wide) (t : Nat), as = [.d (dG G), .d (dV s), .d (dN t)] ∧ m = [] ∧ s.2.2.length ≤ 1000 ∧ G.length ≤ 1000 ∧ Km.groupOf G t < G.length ∧ ∀ p, U (.a p) [(p, .lst ((Km.truths G s.2.2 t).map fun b => .d (.bl b)), true)]
theorem use_truths_of {U : Arg → List Ob → Prop} {G : Groups} {s : Wide} {t : Nat} (hk : s.2.2.length ≤ 1000) (hl : G.length ≤ 1000) (hg : Km.groupOf G t < G.length) (k : ∀ p, U (.a p) [(p, .lst ((Km.truths G s.2.2 t).map fun b => .d (.bl b)), true)]) : pr_truths_of [.d (dG G), .d (dV s), .d (dN t)] [] U := ⟨G, s, t, rfl, rfl, hk, hl, hg, k⟩
theorem len_truths_of (as m W) (h : pr_truths_of as m W) : as.length = 3 := by obtain ⟨_, _, _, rfl, _⟩ := h; rfl
theorem truths_nil {G : Groups} {k : Known} {t : Nat} (h : ((Km.told G k t).map D.bl).isEmpty = true) : Km.truths G k t = [true, false] := by
  unfold Km.truths
  rw [if_pos (by simpa using h)]
theorem truths_not {G : Groups} {k : Known} {t : Nat} (h : ((Km.told G k t).map D.bl).isEmpty = false) : Km.truths G k t = Km.told G k t := by
  unfold Km.truths
  rw [if_neg (by simpa using h)]
set_option hygiene false in
local macro_rules | `(tactic| walk_at "dl") => `(tactic| (repeat' (first
  | with_reducible refine wx_op ?_ | with_reducible refine wx_int ?_ | with_reducible refine wx_bl ?_ | with_reducible refine wx_non ?_ | with_reducible refine wa_cons ?_ | with_reducible refine wa_nil ?_
  | ((with_reducible apply wx_var); focus exact rfl)
  | with_reducible refine wx_tup ?_ | with_reducible refine wx_cb ?_ | with_reducible refine wx_neg ?_ | with_reducible refine wx_lst0 ?_
  | with_reducible refine ws_ret ?_ | with_reducible refine ws_seq ?_ | with_reducible refine ws_asg ?_ | with_reducible refine ws_drop ?_ | with_reducible refine ws_next ?_ | with_reducible refine ws_if ?_ | with_reducible refine ws_par ?_
  | with_reducible refine wt_test ?_ | with_reducible refine wt_b ?_ | with_reducible refine wt_not ?_ | with_reducible refine wt_and ?_ | with_reducible refine wt_or ?_
  | with_reducible refine wg_name ?_ | with_reducible refine wg_tup2 ?_ | with_reducible refine wg_tup3 ?_
  | with_reducible refine wr_i0 ?_ | with_reducible refine wr_b0 ?_ | with_reducible refine wr_eqI ?_ | with_reducible refine wr_neI ?_ | with_reducible refine wr_i ?_ ?_
  | ((with_reducible apply wr_ixT); focus exact rfl)
  | with_reducible refine wc_abs ?_ | with_reducible refine wc_lenM ?_ | with_reducible refine wc_lenT ?_ | with_reducible refine wc_max2 ?_ | with_reducible refine wc_min2 ?_ | with_reducible refine wc_intB ?_
  | with_reducible refine ⟨_, rfl, ?_⟩ | with_reducible refine ⟨_, _, rfl, ?_⟩
  | with_reducible refine ⟨[_], map1, len1, ?_⟩ | with_reducible refine ⟨[_, _], map2, len2, ?_⟩ | with_reducible refine ⟨[_, _, _], map3, len3, ?_⟩ | with_reducible refine ⟨[_, _, _, _], map4, len4, ?_⟩ | with_reducible refine ⟨[], map0, len0, ?_⟩
  | with_reducible refine wx_lcT ?_ | with_reducible refine wx_lcT2 ?_ | with_reducible refine wx_lcL ?_ | with_reducible refine wx_lcR ?_ | with_reducible refine wx_lcE ?_ | with_reducible refine wx_cut2 ?_ | with_reducible refine wx_cut_2 ?_ | with_reducible refine wt_yes ?_
  | with_reducible refine ws_forT ?_ | with_reducible refine ws_forL ?_ | with_reducible refine ws_forV ?_ | with_reducible refine ws_forR ?_ | with_reducible refine ws_forE ?_ | with_reducible refine ws_forZ ?_
  | with_reducible refine wr_inN ?_ | with_reducible refine wr_inN2 ?_ | ((with_reducible apply wr_ixT); focus exact tie_at (by assumption)) | ((with_reducible apply wr_ixT); focus exact pat_at (by assumption))
  | with_reducible refine wc_tupZ ?_ | with_reducible refine wc_lenZ ?_ | with_reducible refine wc_allZ ?_ | with_reducible refine wc_sumZ ?_ | with_reducible refine wc_sortTN ?_ | with_reducible refine wc_sortLK ?_
  | ((with_reducible refine wr_catN ?_ ?_); focus (first | omega | skip)) | ((with_reducible refine wr_catN1 ?_ ?_); focus (first | omega | skip)) | ((with_reducible refine wr_catN2 ?_ ?_); focus (first | omega | skip))
  | with_reducible refine ⟨_, _, _, rfl, ?_⟩ | with_reducible refine ⟨_, _, _, _, rfl, ?_⟩
  | with_reducible refine wr_catT (xs := [_, _]) (ys := [_]) cat21 ?_ | with_reducible refine wr_catT (xs := [_, _]) (ys := [_, _]) cat22 ?_
  | with_reducible refine ⟨rfl, ?_⟩
  | assumption
  | with_reducible refine wx_callP (A := pr_group_of) ?_ | with_reducible refine use_group_of ?_ ?_ ?_
  | fail)))

theorem ok_truths_of (T : Txt K mg) (Ggroup_of : FnOk P w K mg base CX0 1 T.group_of.f T.group_of.fd ["groups", "tie"] (spD P w K pr_group_of)) : FnOk P w K mg base CX0 2 T.truths_of.f T.truths_of.fd ["groups", "wide", "tie"] (spD P w K pr_truths_of) := by
  refine fnD T.truths_of.F sc_truths_of len_truths_of (fun cdv Ar outer s H E hr => ⟨_, (pss_cons (ps_setLc (i := 3) (own := [("group", 4), ("truth", 5)]) rfl sc_truths_of.nd rfl rfl (sw_true rfl rfl rfl (by decide +kernel)) (show PI _ _ _ (iTup K _) from pi_tup (pe_ix (show IxR _ (rIxT K) from ix_tup) (pv 1) pe_int (fun _ _ => rfl))) (blkOk_by (N := N_truths_of) (sc := defScope s_truths_of) (by decide +kernel)) (fun _ _ _ _ _ =>  (show PG _ _ (gTup K 2 _) from pg_tup (n := 2) rfl (pgs_cons (pg_name (i := 4) sc_truths_of.nd rfl (by first | exact Or.inl rfl | exact Or.inr rfl)) (pgs_cons (pg_name (i := 5) sc_truths_of.nd rfl (by first | exact Or.inl rfl | exact Or.inr rfl)) pgs_nil)))) (fun _ _ _ _ _ =>  pts_one (pt_cmpR op_eq (pv 4) (pe_call Ggroup_of (hr.mono (by decide)) rfl T.group_of.g T.group_of.F.kp T.group_of.b .nil pass0 (pa_cons (pv 0) (pa_cons (pv 2) pa_nil))) (nomark _))) (fun _ _ _ _ _ =>  (pv 5)))
    (pss_cons (ps_if (pt_cmpR (show OpR _ _ (rEqD K) from op_eqD hr.units) (pv 3) (pe_lst pa_nil) (nomark _)) (pss_one (ps_ret (pe_lst (pa_cons pe_bl (pa_cons pe_bl pa_nil))))) pss_nil)
    (pss_one (ps_ret (pv 3))))), fun as m W h => ?_⟩)
  try dsimp only [cxOf, Cx.nox, Cx.wish]
  obtain ⟨G, s', t, rfl, rfl, hk, hl, hg, k⟩ := h
  walk_at "dl"
  refine ⟨Nat × Bool, (0, false), s'.2.2, fun p => dN p.1, fun p => .bl p.2, rfl, ⟨by decide, by decide⟩, by omega, fun p => decide ((p.1 : Int) = (Km.groupOf G t : Int)), fun p => .d (.bl p.2), fun p ob hp => ?_, fun p => ?_⟩
  · walk_at "dl"
    refine ⟨fun _ => ?_, fun _ => List.prefix_refl _⟩
    walk_at "dl"
    exact List.prefix_refl _
  · rw [told_of]
    walk_at "dl"
    intro q0
    apply wr_eqZ (n := 0)
    · exact rfl
    · exact dp_list dp_bls
    walk_at "dl"
    refine ⟨fun hc => ?_, fun hc => ?_⟩
    · rw [truths_nil hc] at k
      walk_at "dl"
      refine wx_lst (wa_cons (wx_bl (wa_cons (wx_bl (wa_nil ⟨len_le rfl, fun q => ?_⟩)))))
      exact ⟨_, k q, List.sublist_append_right ..⟩
    · rw [truths_not hc] at k
      walk_at "dl"
      rw [List.map_map]
      exact ⟨_, k p, List.Sublist.refl _⟩
/-! ### the wide stand behind an ask -/
theorem known_of (G : Groups) (k : Known) (t : Nat) (b : Bool) : ((k.filter fun p => !decide ((p.1 : Int) = (Km.groupOf G t : Int))).map fun p => Arg.d (dP p)) ++ [Arg.d (.tup [dN (Km.groupOf G t), .bl b])] = (((k.filter fun p => p.1 != Km.groupOf G t) ++ [(Km.groupOf G t, b)]).map dP).map Arg.d := by
  have e : (k.filter fun p => !decide ((p.1 : Int) = (Km.groupOf G t : Int))) = k.filter fun p => p.1 != Km.groupOf G t := List.filter_congr fun p _ => by
    rw [Bool.eq_iff_iff]
    simp
    omega
  rw [e, List.map_append, List.map_append, List.map_map]
  rfl
def pr_wide_behind : Prom := fun as m U => ∃ (W : Web) (G : Groups) (s : Wide) (t : Nat) (b : Bool), as = [.d (dW W), .d (dG G), .d (dV s), .d (dN t), .d (.bl b)] ∧ m = [] ∧ WebOk W ∧ Km.WP W G s ∧ GrOk W G ∧ t < W.n ∧ U (.d (dV (Km.wbehind W G s t b))) []
theorem use_wide_behind {U : Arg → List Ob → Prop} {W : Web} {G : Groups} {s : Wide} {t : Nat} {b : Bool} (hW : WebOk W) (hs : Km.WP W G s) (hG : GrOk W G) (h : t < W.n) (k : U (.d (dV (Km.wbehind W G s t b))) []) : pr_wide_behind [.d (dW W), .d (dG G), .d (dV s), .d (dN t), .d (.bl b)] [] U := ⟨W, G, s, t, b, rfl, rfl, hW, hs, hG, h, k⟩
theorem len_wide_behind (as m W) (h : pr_wide_behind as m W) : as.length = 5 := by obtain ⟨_, _, _, _, _, rfl, _⟩ := h; rfl
set_option hygiene false in
local macro_rules | `(tactic| walk_at "dl") => `(tactic| (repeat' (first
  | with_reducible refine wx_op ?_ | with_reducible refine wx_int ?_ | with_reducible refine wx_bl ?_ | with_reducible refine wx_non ?_ | with_reducible refine wa_cons ?_ | with_reducible refine wa_nil ?_
  | ((with_reducible apply wx_var); focus exact rfl)
  | with_reducible refine wx_tup ?_ | with_reducible refine wx_cb ?_ | with_reducible refine wx_neg ?_ | with_reducible refine wx_lst0 ?_
  | with_reducible refine ws_ret ?_ | with_reducible refine ws_seq ?_ | with_reducible refine ws_asg ?_ | with_reducible refine ws_drop ?_ | with_reducible refine ws_next ?_ | with_reducible refine ws_if ?_ | with_reducible refine ws_par ?_
  | with_reducible refine wt_test ?_ | with_reducible refine wt_b ?_ | with_reducible refine wt_not ?_ | with_reducible refine wt_and ?_ | with_reducible refine wt_or ?_
  | with_reducible refine wg_name ?_ | with_reducible refine wg_tup2 ?_ | with_reducible refine wg_tup3 ?_
  | with_reducible refine wr_i0 ?_ | with_reducible refine wr_b0 ?_ | with_reducible refine wr_eqI ?_ | with_reducible refine wr_neI ?_ | with_reducible refine wr_i ?_ ?_
  | ((with_reducible apply wr_ixT); focus exact rfl)
  | with_reducible refine wc_abs ?_ | with_reducible refine wc_lenM ?_ | with_reducible refine wc_lenT ?_ | with_reducible refine wc_max2 ?_ | with_reducible refine wc_min2 ?_ | with_reducible refine wc_intB ?_
  | with_reducible refine ⟨_, rfl, ?_⟩ | with_reducible refine ⟨_, _, rfl, ?_⟩
  | with_reducible refine ⟨[_], map1, len1, ?_⟩ | with_reducible refine ⟨[_, _], map2, len2, ?_⟩ | with_reducible refine ⟨[_, _, _], map3, len3, ?_⟩ | with_reducible refine ⟨[_, _, _, _], map4, len4, ?_⟩ | with_reducible refine ⟨[], map0, len0, ?_⟩
  | with_reducible refine wx_lcT ?_ | with_reducible refine wx_lcT2 ?_ | with_reducible refine wx_lcL ?_ | with_reducible refine wx_lcR ?_ | with_reducible refine wx_lcE ?_ | with_reducible refine wx_cut2 ?_ | with_reducible refine wx_cut_2 ?_ | with_reducible refine wt_yes ?_
  | with_reducible refine ws_forT ?_ | with_reducible refine ws_forL ?_ | with_reducible refine ws_forV ?_ | with_reducible refine ws_forR ?_ | with_reducible refine ws_forE ?_ | with_reducible refine ws_forZ ?_
  | with_reducible refine wr_inN ?_ | with_reducible refine wr_inN2 ?_ | ((with_reducible apply wr_ixT); focus exact tie_at (by assumption)) | ((with_reducible apply wr_ixT); focus exact pat_at (by assumption))
  | with_reducible refine wc_tupZ ?_ | with_reducible refine wc_lenZ ?_ | with_reducible refine wc_allZ ?_ | with_reducible refine wc_sumZ ?_ | with_reducible refine wc_sortTN ?_ | with_reducible refine wc_sortLK ?_
  | ((with_reducible refine wr_catN ?_ ?_); focus (first | omega | skip)) | ((with_reducible refine wr_catN1 ?_ ?_); focus (first | omega | skip)) | ((with_reducible refine wr_catN2 ?_ ?_); focus (first | omega | skip))
  | with_reducible refine ⟨_, _, _, rfl, ?_⟩ | with_reducible refine ⟨_, _, _, _, rfl, ?_⟩
  | with_reducible refine wr_catT (xs := [_, _]) (ys := [_]) cat21 ?_ | with_reducible refine wr_catT (xs := [_, _]) (ys := [_, _]) cat22 ?_
  | with_reducible refine ⟨rfl, ?_⟩
  | assumption
  | with_reducible refine wx_callP (A := pr_group_of) ?_ | with_reducible refine use_group_of ?_ ?_ ?_
  | with_reducible refine use_stand_behindW ?_ ?_ ?_ ?_
  | with_reducible refine wx_callP (A := pr_stand_behind) ?_ | with_reducible refine use_stand_behind ?_ ?_ ?_ ?_
  | fail)))

theorem ok_wide_behind (T : Txt K mg) (Ggroup_of : FnOk P w K mg base CX0 1 T.group_of.f T.group_of.fd ["groups", "tie"] (spD P w K pr_group_of)) (Gstand_behind : FnOk P w K mg base CX0 2 T.stand_behind.f T.stand_behind.fd ["web", "stand", "tie", "truth"] (spD P w K pr_stand_behind)) : FnOk P w K mg base CX0 3 T.wide_behind.f T.wide_behind.fd ["web", "groups", "wide", "tie", "truth"] (spD P w K pr_wide_behind) := by
  refine fnD T.wide_behind.F sc_wide_behind len_wide_behind (fun cdv Ar outer s H E hr => ⟨_, (pss_cons (ps_set (i := 5) sc_wide_behind.nd rfl (by first | exact Or.inl rfl | exact Or.inr rfl) (pe_call Ggroup_of (hr.mono (by decide)) rfl T.group_of.g T.group_of.F.kp T.group_of.b .nil pass0 (pa_cons (pv 1) (pa_cons (pv 3) pa_nil))))
    (pss_cons (ps_setLc (i := 6) (own := [("pair", 7)]) rfl sc_wide_behind.nd rfl rfl (sw_true rfl rfl rfl (by decide +kernel)) (show PI _ _ _ (iTup K _) from pi_tup (pe_ix (show IxR _ (rIxT K) from ix_tup) (pv 2) pe_int (fun _ _ => rfl))) (blkOk_by (N := N_wide_behind) (sc := defScope s_wide_behind) (by decide +kernel)) (fun _ _ _ _ _ =>  (pg_name (i := 7) sc_wide_behind.nd rfl (by first | exact Or.inl rfl | exact Or.inr rfl))) (fun _ _ _ _ _ =>  pts_one (pt_cmpR op_ne (pe_ix (show IxR _ (rIxT K) from ix_tup) (pv 7) pe_int (fun _ _ => rfl)) (pv 5) (nomark _))) (fun _ _ _ _ _ =>  (pv 7)))
    (pss_one (ps_ret (pe_op (show OpR _ _ (rCatA K) from op_catA) (pe_call Gstand_behind (hr.mono (by decide)) rfl T.stand_behind.g T.stand_behind.F.kp T.stand_behind.b .nil pass0 (pa_cons (pv 0) (pa_cons (pe_slice (show SlR _ (rSlA K) from sl_tupA) (pv 2) po_none (po_some pe_int)) (pa_cons (pv 3) (pa_cons (pv 4) pa_nil))))) (pe_tup (pa_cons (pe_callTy (show CallR _ _ (rTupOf K) from call_tuple_of) (by rfl) T.tuple PyProof.Rows.boot_tuple (pa_cons (pe_callB (show CallR _ _ (rSortD K) from cr_sortD hr.units) (by rfl) T.sorted PyProof.Rows.boot_sorted (pa_cons (pe_op op_cat (pv 6) (pe_lst (pa_cons (pe_tup (pa_cons (pv 5) (pa_cons (pv 4) pa_nil))) pa_nil))) pa_nil)) pa_nil)) pa_nil))))))), fun as m W h => ?_⟩)
  try dsimp only [cxOf, Cx.nox, Cx.wish]
  obtain ⟨W', G, s', t, b, rfl, rfl, hW, hs, hG, ht, k⟩ := h
  have hl := hG.few
  have hg := hG.has t ht
  have h5 := web5 hW
  have hk := hs.klen
  have hsp := hs.sp
  walk_at "dl"
  refine ⟨Nat × Bool, (0, false), s'.2.2, dP, rfl, by decide, by omega, fun p => !decide ((p.1 : Int) = (Km.groupOf G t : Int)), fun p => .d (dP p), fun p ob hp => ?_, fun p => ?_⟩
  · walk_at "dl"
    refine ⟨fun _ => ?_, fun _ => List.prefix_refl _⟩
    walk_at "dl"
    exact List.prefix_refl _
  · walk_at "dl"
    refine wx_lst (wa_cons (wx_tup (wa_cons ?_)))
    walk_at "dl"
    refine ⟨len_le rfl, fun q => ?_⟩
    apply wr_catZ (n := 0)
    · exact rfl
    · rw [List.length_map]
      have := List.length_filter_le (fun p : Nat × Bool => !decide ((p.1 : Int) = (Km.groupOf G t : Int))) s'.2.2
      show _ + 1 ≤ _
      omega
    intro l
    rw [known_of]
    walk_at "dl"
    intro l2
    walk_at "dl"
    exact ⟨_, k, List.nil_sublist _⟩
end
end Dl

/-! keys of the stands, tables -/
namespace Dl
open PySem PySem.Spec L2
open Km (Web Stand Wide Known Groups WebOk)
theorem keys_map : ∀ l : List D, keys l = l.map key
  | [] => rfl
  | d :: l => by
    show key d :: keys l = _
    rw [keys_map l]; rfl
theorem dA_map {α : Type} {e : α → D} {k : Nat} : ∀ {l : List α}, (∀ a ∈ l, (key (e a)).depth ≤ k) → NestedKey.depthAll (keys (l.map e)) ≤ k
  | [], _ => by simp [keys, NestedKey.depthAll]
  | a :: l, h => by
    have h1 := h a List.mem_cons_self
    have h2 := dA_map (e := e) (l := l) fun b hb => h b (List.mem_cons_of_mem _ hb)
    simp only [List.map_cons, keys, NestedKey.depthAll]
    omega
theorem kd_Ns (l : List Nat) : (key (dNs l)).depth ≤ 1 := by
  have := dA_map (e := dN) (k := 0) (l := l) fun a _ => by simp [key, NestedKey.depth]
  simp only [key, NestedKey.depth]
  omega
theorem kd_Kn (l : Known) : (key (dKn l)).depth ≤ 2 := by
  have := dA_map (e := dP) (k := 1) (l := l) fun a _ => by simp [key, keys, NestedKey.depth, NestedKey.depthAll]
  simp only [key, NestedKey.depth]
  omega
theorem kd_S (s : Stand) : (key (dS s)).depth ≤ 8 := by
  have h1 := kd_Ns s.1
  have h2 := kd_Ns s.2
  simp only [key, keys, NestedKey.depth, NestedKey.depthAll] at h1 h2 ⊢
  omega
theorem kd_V (s : Wide) : (key (dV s)).depth ≤ 8 := by
  have h1 := kd_Ns s.1
  have h2 := kd_Ns s.2.1
  have h3 := kd_Kn s.2.2
  simp only [key, keys, NestedKey.depth, NestedKey.depthAll] at h1 h2 h3 ⊢
  omega
theorem keys_N (l : List Nat) : keys (l.map dN) = l.map fun (n : Nat) => NestedKey.num (n : Int) := by rw [keys_map, List.map_map]; rfl
theorem keys_K (l : Known) : keys (l.map dP) = l.map fun p => NestedKey.tup [.num (p.1 : Int), .num (if p.2 = true then 1 else 0)] := by rw [keys_map, List.map_map]; rfl
theorem map_inj {α β : Type} {f : α → β} (h : ∀ a b, f a = f b → a = b) : ∀ {l m : List α}, l.map f = m.map f → l = m
  | [], [], _ => rfl
  | [], _ :: _, e => by simp at e
  | _ :: _, [], e => by simp at e
  | a :: l, b :: m, e => by
    simp only [List.map_cons, List.cons.injEq] at e
    rw [h a b e.1, map_inj h e.2]
theorem key_N {l m : List Nat} (h : key (dNs l) = key (dNs m)) : l = m := by
  have h' : NestedKey.tup (keys (l.map dN)) = NestedKey.tup (keys (m.map dN)) := h
  rw [keys_N, keys_N] at h'
  exact map_inj (fun a b e => by have := NestedKey.num.inj e; omega) (NestedKey.tup.inj h')
theorem key_K {l m : Known} (h : key (dKn l) = key (dKn m)) : l = m := by
  have h' : NestedKey.tup (keys (l.map dP)) = NestedKey.tup (keys (m.map dP)) := h
  rw [keys_K, keys_K] at h'
  refine map_inj (fun a b e => ?_) (NestedKey.tup.inj h')
  obtain ⟨a1, a2⟩ := a
  obtain ⟨b1, b2⟩ := b
  simp only [NestedKey.tup.injEq, List.cons.injEq, NestedKey.num.injEq, and_true] at e
  have h1 : a1 = b1 := by omega
  have h2 : a2 = b2 := by
    have := e.2
    cases a2 <;> cases b2 <;> simp at this <;> rfl
  rw [h1, h2]
theorem key_S {s u : Stand} (h : key (dS s) = key (dS u)) : s = u := by
  have h' : NestedKey.tup [key (dNs s.1), key (dNs s.2)] = NestedKey.tup [key (dNs u.1), key (dNs u.2)] := h
  have h2 := NestedKey.tup.inj h'
  simp only [List.cons.injEq, and_true] at h2
  exact Prod.ext (key_N h2.1) (key_N h2.2)
theorem key_V {s u : Wide} (h : key (dV s) = key (dV u)) : s = u := by
  have h' : NestedKey.tup [key (dNs s.1), key (dNs s.2.1), key (dKn s.2.2)] = NestedKey.tup [key (dNs u.1), key (dNs u.2.1), key (dKn u.2.2)] := h
  have h2 := NestedKey.tup.inj h'
  simp only [List.cons.injEq, and_true] at h2
  exact Prod.ext (key_N h2.1) (Prod.ext (key_N h2.2.1) (key_K h2.2.2))
/-! ### tables -/
def tab {α : Type} (e v : α → D) (L : List α) : List (NestedKey × D) := L.map fun s => (key (e s), v s)
theorem tab_len {α : Type} (e v : α → D) (L : List α) : (tab e v L).length = L.length := List.length_map ..
section
variable {α : Type} {e v : α → D}
theorem look_in (h : ∀ s u, key (e s) = key (e u) → s = u) : ∀ {L : List α} {s : α}, s ∈ L → lookN (tab e v L) (key (e s)) = some (v s)
  | [], _, hs => absurd hs List.not_mem_nil
  | u :: L, s, hs => by
    by_cases q : key (e u) = key (e s)
    · obtain rfl := h _ _ q
      simp [tab, lookN, List.find?_cons]
    · rcases List.mem_cons.mp hs with rfl | hs
      · exact absurd rfl q
      · have := look_in h (L := L) hs
        unfold lookN tab at this ⊢
        rw [List.map_cons, List.find?_cons, decide_eq_false q]
        exact this
theorem look_out (h : ∀ s u, key (e s) = key (e u) → s = u) : ∀ {L : List α} {s : α}, s ∉ L → lookN (tab e v L) (key (e s)) = none
  | [], _, _ => rfl
  | u :: L, s, hs => by
    have q : ¬ key (e u) = key (e s) := fun q => hs (by rw [h _ _ q]; exact List.mem_cons_self)
    have := look_out h (L := L) (s := s) fun hm => hs (List.mem_cons_of_mem _ hm)
    unfold lookN tab at this ⊢
    rw [List.map_cons, List.find?_cons, decide_eq_false q]
    exact this
theorem look_some (h : ∀ s u, key (e s) = key (e u) → s = u) [DecidableEq α] {L : List α} {s : α} : (lookN (tab e v L) (key (e s))).isSome = decide (s ∈ L) := by
  by_cases q : s ∈ L
  · rw [look_in h q, decide_eq_true q]; rfl
  · rw [look_out h q, decide_eq_false q]; rfl
theorem put_new (h : ∀ s u, key (e s) = key (e u) → s = u) {L : List α} {s : α} (hs : s ∉ L) : putN (tab e v L) (key (e s)) (v s) = tab e v (L ++ [s]) := by
  unfold putN
  rw [look_out h hs]
  simp [tab]
theorem look_app {kvs : List (NestedKey × D)} {k k' : NestedKey} {d : D} (h : k' ≠ k) : lookN (kvs ++ [(k, d)]) k' = lookN kvs k' := by
  unfold lookN
  rw [List.find?_append, List.find?_cons, decide_eq_false (fun q => h q.symm)]
  simp
theorem look_app_self {kvs : List (NestedKey × D)} {k : NestedKey} {d : D} (h : lookN kvs k = none) : lookN (kvs ++ [(k, d)]) k = some d := by
  unfold lookN at h ⊢
  rw [List.find?_append]
  cases q : List.find? (fun x => decide (x.1 = k)) kvs with
  | some y => rw [q] at h; cases h
  | none => simp
theorem find_none {kvs : List (NestedKey × D)} {k : NestedKey} (h : lookN kvs k = none) : ∀ x ∈ kvs, x.1 ≠ k := fun x hx q => by
  unfold lookN at h
  rw [Option.map_eq_none_iff, List.find?_eq_none] at h
  exact h x hx (decide_eq_true q)
theorem put_app_self {kvs : List (NestedKey × D)} {k : NestedKey} {d d' : D} (h : lookN kvs k = none) : putN (kvs ++ [(k, d)]) k d' = kvs ++ [(k, d')] := by
  have hn := find_none h
  unfold putN
  rw [look_app_self h, Option.isSome_some, if_pos rfl, List.map_append]
  congr 1
  · conv => rhs; rw [← List.map_id kvs]
    exact List.map_congr_left fun x hx => if_neg (hn x hx)
  · simp
theorem put_none {kvs : List (NestedKey × D)} {k : NestedKey} {d : D} (h : lookN kvs k = none) : putN kvs k d = kvs ++ [(k, d)] := by
  unfold putN
  rw [h]
  rfl
end
end Dl

/-! the law's own defs about stands -/
namespace Dl
open PySem PySem.Spec L2
open Km (Web Stand Wide Known Groups WebOk)
section
variable {P : Program} {w : World} {K : PySem.W.Frag} {mg : Str → Option Value} {base : Heap}
def pr__law_asks_of : Prom := pr_times_asked
theorem use__law_asks_of {U : Arg → List Ob → Prop} {W : Web} {l : List Nat} {th : Nat} (h : l.length ≤ 1000000) (ht : ∀ t ∈ l, t < W.n) (k : U (.d (dN (Km.timesAsked W l th))) []) : pr__law_asks_of [.d (dW W), .d (dNs l), .d (dN th)] [] U := ⟨W, l, th, rfl, rfl, h, ht, k⟩
theorem len__law_asks_of (as m W) (h : pr__law_asks_of as m W) : as.length = 3 := len_times_asked as m W h
set_option hygiene false in
local macro_rules | `(tactic| walk_at "dl") => `(tactic| (repeat' (first
  | with_reducible refine wx_op ?_ | with_reducible refine wx_int ?_ | with_reducible refine wx_bl ?_ | with_reducible refine wx_non ?_ | with_reducible refine wa_cons ?_ | with_reducible refine wa_nil ?_
  | ((with_reducible apply wx_var); focus exact rfl)
  | with_reducible refine wx_tup ?_ | with_reducible refine wx_cb ?_ | with_reducible refine wx_neg ?_ | with_reducible refine wx_lst0 ?_
  | with_reducible refine ws_ret ?_ | with_reducible refine ws_seq ?_ | with_reducible refine ws_asg ?_ | with_reducible refine ws_drop ?_ | with_reducible refine ws_next ?_ | with_reducible refine ws_if ?_ | with_reducible refine ws_par ?_
  | with_reducible refine wt_test ?_ | with_reducible refine wt_b ?_ | with_reducible refine wt_not ?_ | with_reducible refine wt_and ?_ | with_reducible refine wt_or ?_
  | with_reducible refine wg_name ?_ | with_reducible refine wg_tup2 ?_ | with_reducible refine wg_tup3 ?_
  | with_reducible refine wr_i0 ?_ | with_reducible refine wr_b0 ?_ | with_reducible refine wr_eqI ?_ | with_reducible refine wr_neI ?_ | with_reducible refine wr_i ?_ ?_
  | ((with_reducible apply wr_ixT); focus exact rfl)
  | with_reducible refine wc_abs ?_ | with_reducible refine wc_lenM ?_ | with_reducible refine wc_lenT ?_ | with_reducible refine wc_max2 ?_ | with_reducible refine wc_min2 ?_ | with_reducible refine wc_intB ?_
  | with_reducible refine ⟨_, rfl, ?_⟩ | with_reducible refine ⟨_, _, rfl, ?_⟩
  | with_reducible refine ⟨[_], map1, len1, ?_⟩ | with_reducible refine ⟨[_, _], map2, len2, ?_⟩ | with_reducible refine ⟨[_, _, _], map3, len3, ?_⟩ | with_reducible refine ⟨[_, _, _, _], map4, len4, ?_⟩ | with_reducible refine ⟨[], map0, len0, ?_⟩
  | with_reducible refine wx_lcT ?_ | with_reducible refine wx_lcT2 ?_ | with_reducible refine wx_lcL ?_ | with_reducible refine wx_lcR ?_ | with_reducible refine wx_lcE ?_ | with_reducible refine wx_cut2 ?_ | with_reducible refine wx_cut_2 ?_ | with_reducible refine wt_yes ?_
  | with_reducible refine ws_forT ?_ | with_reducible refine ws_forL ?_ | with_reducible refine ws_forV ?_ | with_reducible refine ws_forR ?_ | with_reducible refine ws_forE ?_ | with_reducible refine ws_forZ ?_
  | with_reducible refine wr_inN ?_ | with_reducible refine wr_inN2 ?_ | ((with_reducible apply wr_ixT); focus exact tie_at (by assumption)) | ((with_reducible apply wr_ixT); focus exact pat_at (by assumption))
  | with_reducible refine wc_tupZ ?_ | with_reducible refine wc_lenZ ?_ | with_reducible refine wc_allZ ?_ | with_reducible refine wc_sumZ ?_ | with_reducible refine wc_sortTN ?_ | with_reducible refine wc_sortLK ?_
  | ((with_reducible refine wr_catN ?_ ?_); focus (first | omega | skip)) | ((with_reducible refine wr_catN1 ?_ ?_); focus (first | omega | skip)) | ((with_reducible refine wr_catN2 ?_ ?_); focus (first | omega | skip))
  | with_reducible refine ⟨_, _, _, rfl, ?_⟩ | with_reducible refine ⟨_, _, _, _, rfl, ?_⟩
  | with_reducible refine wr_catT (xs := [_, _]) (ys := [_]) cat21 ?_ | with_reducible refine wr_catT (xs := [_, _]) (ys := [_, _]) cat22 ?_
  | with_reducible refine ⟨rfl, ?_⟩
  | assumption
  | fail)))

theorem ok__law_asks_of (T : Txt K mg)  : FnOk P w K mg base CX0 1 T._law_asks_of.f T._law_asks_of.fd ["_law_web_here", "_law_asked", "_law_thing"] (spD P w K pr__law_asks_of) := by
  refine fnD T._law_asks_of.F sc__law_asks_of len__law_asks_of (fun cdv Ar outer s H E hr => ⟨_, (pss_one (ps_ret (pe_callB (show CallR _ _ (rLen K) from call_len_seq) (by rfl) T.len PySem.boot_len (pa_cons (pe_lc (own := [("_law_tie", 3)]) rfl sc__law_asks_of.nd (show PI _ _ _ (iTup K _) from pi_tup (pv 1)) (blkOk_by (N := N__law_asks_of) (sc := defScope s__law_asks_of) (by decide +kernel)) (fun _ _ _ _ _ =>  (pg_name (i := 3) sc__law_asks_of.nd rfl (by first | exact Or.inl rfl | exact Or.inr rfl))) (fun _ _ _ _ _ =>  pts_one (pt_cmpR (show OpR _ _ (rIn K false) from op_in_seq) (pv 2) (pe_slice (show SlR _ (rSlA K) from sl_tupA) (pe_ix (show IxR _ (rIxT K) from ix_tup) (pe_ix (show IxR _ (rIxT K) from ix_tup) (pv 0) pe_int (fun _ _ => rfl)) (pv 3) (fun _ _ => rfl)) po_none (po_some pe_int)) (by rfl))) (fun _ _ _ _ _ =>  (pv 3))) pa_nil)))), fun as m W h => ?_⟩)
  try dsimp only [cxOf, Cx.nox, Cx.wish]
  obtain ⟨W', l, th, rfl, rfl, hl, hlt, k⟩ := h
  walk_at "dl"
  refine ⟨Nat, 0, l, dN, rfl, by decide, hl, fun t => (W'.ends t).contains th, fun t => .d (dN t), fun t ob htl => ?_, fun p => ?_⟩
  · have ht := hlt t htl
    walk_at "dl"
    refine ⟨fun _ => ?_, fun _ => List.prefix_refl _⟩
    walk_at "dl"
    exact List.prefix_refl _
  · walk_at "dl"
    rw [List.length_map]
    exact ⟨_, k, List.nil_sublist _⟩
def pr__law_may : Prom := pr_may_ask
theorem use__law_may {U : Arg → List Ob → Prop} {W : Web} {s : Stand} {t : Nat} (hW : WebOk W) (hs : Km.SP W s) (h : t < W.n) (k : U (.d (.bl (Km.mayAsk W s t))) []) : pr__law_may [.d (dW W), .d (dS s), .d (dN t)] [] U := ⟨W, s, t, rfl, rfl, hW, hs, h, k⟩
theorem len__law_may (as m W) (h : pr__law_may as m W) : as.length = 3 := len_may_ask as m W h
set_option hygiene false in
local macro_rules | `(tactic| walk_at "dl") => `(tactic| (repeat' (first
  | with_reducible refine wx_op ?_ | with_reducible refine wx_int ?_ | with_reducible refine wx_bl ?_ | with_reducible refine wx_non ?_ | with_reducible refine wa_cons ?_ | with_reducible refine wa_nil ?_
  | ((with_reducible apply wx_var); focus exact rfl)
  | with_reducible refine wx_tup ?_ | with_reducible refine wx_cb ?_ | with_reducible refine wx_neg ?_ | with_reducible refine wx_lst0 ?_
  | with_reducible refine ws_ret ?_ | with_reducible refine ws_seq ?_ | with_reducible refine ws_asg ?_ | with_reducible refine ws_drop ?_ | with_reducible refine ws_next ?_ | with_reducible refine ws_if ?_ | with_reducible refine ws_par ?_
  | with_reducible refine wt_test ?_ | with_reducible refine wt_b ?_ | with_reducible refine wt_not ?_ | with_reducible refine wt_and ?_ | with_reducible refine wt_or ?_
  | with_reducible refine wg_name ?_ | with_reducible refine wg_tup2 ?_ | with_reducible refine wg_tup3 ?_
  | with_reducible refine wr_i0 ?_ | with_reducible refine wr_b0 ?_ | with_reducible refine wr_eqI ?_ | with_reducible refine wr_neI ?_ | with_reducible refine wr_i ?_ ?_
  | ((with_reducible apply wr_ixT); focus exact rfl)
  | with_reducible refine wc_abs ?_ | with_reducible refine wc_lenM ?_ | with_reducible refine wc_lenT ?_ | with_reducible refine wc_max2 ?_ | with_reducible refine wc_min2 ?_ | with_reducible refine wc_intB ?_
  | with_reducible refine ⟨_, rfl, ?_⟩ | with_reducible refine ⟨_, _, rfl, ?_⟩
  | with_reducible refine ⟨[_], map1, len1, ?_⟩ | with_reducible refine ⟨[_, _], map2, len2, ?_⟩ | with_reducible refine ⟨[_, _, _], map3, len3, ?_⟩ | with_reducible refine ⟨[_, _, _, _], map4, len4, ?_⟩ | with_reducible refine ⟨[], map0, len0, ?_⟩
  | with_reducible refine wx_lcT ?_ | with_reducible refine wx_lcT2 ?_ | with_reducible refine wx_lcL ?_ | with_reducible refine wx_lcR ?_ | with_reducible refine wx_lcE ?_ | with_reducible refine wx_cut2 ?_ | with_reducible refine wx_cut_2 ?_ | with_reducible refine wt_yes ?_
  | with_reducible refine ws_forT ?_ | with_reducible refine ws_forL ?_ | with_reducible refine ws_forV ?_ | with_reducible refine ws_forR ?_ | with_reducible refine ws_forE ?_ | with_reducible refine ws_forZ ?_
  | with_reducible refine wr_inN ?_ | with_reducible refine wr_inN2 ?_ | ((with_reducible apply wr_ixT); focus exact tie_at (by assumption)) | ((with_reducible apply wr_ixT); focus exact pat_at (by assumption))
  | with_reducible refine wc_tupZ ?_ | with_reducible refine wc_lenZ ?_ | with_reducible refine wc_allZ ?_ | with_reducible refine wc_sumZ ?_ | with_reducible refine wc_sortTN ?_ | with_reducible refine wc_sortLK ?_
  | ((with_reducible refine wr_catN ?_ ?_); focus (first | omega | skip)) | ((with_reducible refine wr_catN1 ?_ ?_); focus (first | omega | skip)) | ((with_reducible refine wr_catN2 ?_ ?_); focus (first | omega | skip))
  | with_reducible refine ⟨_, _, _, rfl, ?_⟩ | with_reducible refine ⟨_, _, _, _, rfl, ?_⟩
  | with_reducible refine wr_catT (xs := [_, _]) (ys := [_]) cat21 ?_ | with_reducible refine wr_catT (xs := [_, _]) (ys := [_, _]) cat22 ?_
  | with_reducible refine ⟨rfl, ?_⟩
  | assumption
  | with_reducible refine wx_callP (A := pr__law_asks_of) ?_ | with_reducible refine use__law_asks_of ?_ ?_ ?_
  | fail)))

theorem ok__law_may (T : Txt K mg) (G_law_asks_of : FnOk P w K mg base CX0 1 T._law_asks_of.f T._law_asks_of.fd ["_law_web_here", "_law_asked", "_law_thing"] (spD P w K pr__law_asks_of)) : FnOk P w K mg base CX0 2 T._law_may.f T._law_may.fd ["_law_web_here", "_law_stand", "_law_tie"] (spD P w K pr__law_may) := by
  refine fnD T._law_may.F sc__law_may len__law_may (fun cdv Ar outer s H E hr => ⟨_, (pss_cons (ps_asg (pv 1) (show PG _ _ (gTup K 2 _) from pg_tup (n := 2) rfl (pgs_cons (pg_name (i := 3) sc__law_may.nd rfl (by first | exact Or.inl rfl | exact Or.inr rfl)) (pgs_cons (pg_name (i := 4) sc__law_may.nd rfl (by first | exact Or.inl rfl | exact Or.inr rfl)) pgs_nil))))
    (pss_cons (ps_if (PW.pt (pw_or (pt_cmpR (show OpR _ _ (rIn K false) from op_in_seq) (pv 2) (pv 3) (by rfl)) (pw_or1 (pt_cmpR op_ge (pe_callB (show CallR _ _ (rLen K) from call_len_seq) (by rfl) T.len PySem.boot_len (pa_cons (pv 3) pa_nil)) (pe_ix (show IxR _ (rIxT K) from ix_tup) (pv 0) pe_int (fun _ _ => rfl)) (nomark _))))) (pss_one (ps_ret pe_bl)) pss_nil)
    (pss_cons (ps_for PassesOwn.never rfl (show PI _ _ _ (iTup K _) from pi_tup (pe_slice (show SlR _ (rSlA K) from sl_tupA) (pe_ix (show IxR _ (rIxT K) from ix_tup) (pe_ix (show IxR _ (rIxT K) from ix_tup) (pv 0) pe_int (fun _ _ => rfl)) (pv 2) (fun _ _ => rfl)) po_none (po_some pe_int))) (pg_name (i := 5) sc__law_may.nd rfl (by first | exact Or.inl rfl | exact Or.inr rfl))
    (pss_one (ps_if (PW.pt (pw_or (pt_cmpR (show OpR _ _ (rIn K false) from op_in_seq) (pv 5) (pv 4) (by rfl)) (pw_or1 (pt_cmpR op_ge (pe_call G_law_asks_of (hr.mono (by decide)) rfl T._law_asks_of.g T._law_asks_of.F.kp T._law_asks_of.b .nil pass0 (pa_cons (pv 0) (pa_cons (pv 3) (pa_cons (pv 5) pa_nil)))) (pe_ix (show IxR _ (rIxT K) from ix_tup) (pe_ix (show IxR _ (rIxT K) from ix_tup) (pv 0) pe_int (fun _ _ => rfl)) (pv 5) (fun _ _ => rfl)) (nomark _))))) (pss_one (ps_ret pe_bl)) pss_nil)))
    (pss_one (ps_ret pe_bl))))), fun as m W h => ?_⟩)
  try dsimp only [cxOf, Cx.nox, Cx.wish]
  obtain ⟨W', s', t, rfl, rfl, hW, hs, ht, k⟩ := h
  have h5 := web5 hW
  have hl := hs.len
  walk_at "dl"
  refine ⟨fun h1 => ⟨fun _ => ?_, fun h => nomatch h⟩, fun h1 => ?_⟩
  · walk_at "dl"
    refine ⟨_, ?_, List.nil_sublist _⟩
    rw [may_no1 h1] at k
    exact k
  walk_at "dl"
  refine ⟨fun h2 => ?_, fun h2 => ?_⟩
  · walk_at "dl"
    refine ⟨_, ?_, List.nil_sublist _⟩
    rw [may_no2 h2] at k
    exact k
  walk_at "dl"
  rw [may_go h1 h2] at k
  refine ⟨Nat, 0, W'.ends t, dN, rfl, fun i S' => ((W'.ends t).take i).all (Km.thingOk W' s') = true ∧ ∃ o, S' = ⟨[some (.d (dW W')), some (.d (dS s')), some (.d (dN t)), some (.d (dNs s'.1)), some (.d (dNs s'.2)), o], []⟩, ⟨rfl, none, rfl⟩, ?_, ?_⟩
  · rintro i th S' hth ⟨hall, o, rfl⟩
    have hmem : th ∈ W'.ends t := List.mem_of_getElem? hth
    have hp := end_pat hW ht hmem
    walk_at "dl"
    refine ⟨fun h3 => ⟨fun _ => ?_, fun h => nomatch h⟩, fun h3 => ?_⟩
    · walk_at "dl"
      refine ⟨_, ?_, List.nil_sublist _⟩
      rw [all_false hmem (thing_no1 h3)] at k
      exact k
    walk_at "dl"
    · omega
    · exact hs.lt
    refine ⟨fun h4 => ?_, fun h4 => ?_⟩
    · walk_at "dl"
      refine ⟨_, ?_, List.nil_sublist _⟩
      rw [all_false hmem (by rw [thing_eq h3, h4]; rfl)] at k
      exact k
    · walk_at "dl"
      refine ⟨_, Le.refl _, by rw [all_take hth, hall, thing_eq h3, h4]; rfl, _, rfl⟩
  · rintro S' ⟨hall, o, rfl⟩
    rw [List.take_length] at hall
    rw [hall] at k
    walk_at "dl"
    exact ⟨_, k, List.nil_sublist _⟩
def pr__law_askable : Prom := pr_askable
theorem use__law_askable {U : Arg → List Ob → Prop} {W : Web} {s : Stand} (hW : WebOk W) (hs : Km.SP W s) (k : ∀ p, U (.a p) [(p, .lst ((Km.askable W s).map fun t => .d (dN t)), true)]) : pr__law_askable [.d (dW W), .d (dS s)] [] U := ⟨W, s, rfl, rfl, hW, hs, k⟩
theorem use__law_askableW {U : Arg → List Ob → Prop} {W : Web} {s : Wide} (hW : WebOk W) (hs : Km.SP W (Km.Wide.st s)) (k : ∀ p, U (.a p) [(p, .lst ((Km.askable W (Km.Wide.st s)).map fun t => .d (dN t)), true)]) : pr__law_askable [.d (dW W), .d (.tup [dNs s.1, dNs s.2.1])] [] U := ⟨W, Km.Wide.st s, rfl, rfl, hW, hs, k⟩
theorem len__law_askable (as m W) (h : pr__law_askable as m W) : as.length = 2 := len_askable as m W h
set_option hygiene false in
local macro_rules | `(tactic| walk_at "dl") => `(tactic| (repeat' (first
  | with_reducible refine wx_op ?_ | with_reducible refine wx_int ?_ | with_reducible refine wx_bl ?_ | with_reducible refine wx_non ?_ | with_reducible refine wa_cons ?_ | with_reducible refine wa_nil ?_
  | ((with_reducible apply wx_var); focus exact rfl)
  | with_reducible refine wx_tup ?_ | with_reducible refine wx_cb ?_ | with_reducible refine wx_neg ?_ | with_reducible refine wx_lst0 ?_
  | with_reducible refine ws_ret ?_ | with_reducible refine ws_seq ?_ | with_reducible refine ws_asg ?_ | with_reducible refine ws_drop ?_ | with_reducible refine ws_next ?_ | with_reducible refine ws_if ?_ | with_reducible refine ws_par ?_
  | with_reducible refine wt_test ?_ | with_reducible refine wt_b ?_ | with_reducible refine wt_not ?_ | with_reducible refine wt_and ?_ | with_reducible refine wt_or ?_
  | with_reducible refine wg_name ?_ | with_reducible refine wg_tup2 ?_ | with_reducible refine wg_tup3 ?_
  | with_reducible refine wr_i0 ?_ | with_reducible refine wr_b0 ?_ | with_reducible refine wr_eqI ?_ | with_reducible refine wr_neI ?_ | with_reducible refine wr_i ?_ ?_
  | ((with_reducible apply wr_ixT); focus exact rfl)
  | with_reducible refine wc_abs ?_ | with_reducible refine wc_lenM ?_ | with_reducible refine wc_lenT ?_ | with_reducible refine wc_max2 ?_ | with_reducible refine wc_min2 ?_ | with_reducible refine wc_intB ?_
  | with_reducible refine ⟨_, rfl, ?_⟩ | with_reducible refine ⟨_, _, rfl, ?_⟩
  | with_reducible refine ⟨[_], map1, len1, ?_⟩ | with_reducible refine ⟨[_, _], map2, len2, ?_⟩ | with_reducible refine ⟨[_, _, _], map3, len3, ?_⟩ | with_reducible refine ⟨[_, _, _, _], map4, len4, ?_⟩ | with_reducible refine ⟨[], map0, len0, ?_⟩
  | with_reducible refine wx_lcT ?_ | with_reducible refine wx_lcT2 ?_ | with_reducible refine wx_lcL ?_ | with_reducible refine wx_lcR ?_ | with_reducible refine wx_lcE ?_ | with_reducible refine wx_cut2 ?_ | with_reducible refine wx_cut_2 ?_ | with_reducible refine wt_yes ?_
  | with_reducible refine ws_forT ?_ | with_reducible refine ws_forL ?_ | with_reducible refine ws_forV ?_ | with_reducible refine ws_forR ?_ | with_reducible refine ws_forE ?_ | with_reducible refine ws_forZ ?_
  | with_reducible refine wr_inN ?_ | with_reducible refine wr_inN2 ?_ | ((with_reducible apply wr_ixT); focus exact tie_at (by assumption)) | ((with_reducible apply wr_ixT); focus exact pat_at (by assumption))
  | with_reducible refine wc_tupZ ?_ | with_reducible refine wc_lenZ ?_ | with_reducible refine wc_allZ ?_ | with_reducible refine wc_sumZ ?_ | with_reducible refine wc_sortTN ?_ | with_reducible refine wc_sortLK ?_
  | ((with_reducible refine wr_catN ?_ ?_); focus (first | omega | skip)) | ((with_reducible refine wr_catN1 ?_ ?_); focus (first | omega | skip)) | ((with_reducible refine wr_catN2 ?_ ?_); focus (first | omega | skip))
  | with_reducible refine ⟨_, _, _, rfl, ?_⟩ | with_reducible refine ⟨_, _, _, _, rfl, ?_⟩
  | with_reducible refine wr_catT (xs := [_, _]) (ys := [_]) cat21 ?_ | with_reducible refine wr_catT (xs := [_, _]) (ys := [_, _]) cat22 ?_
  | with_reducible refine ⟨rfl, ?_⟩
  | assumption
  | with_reducible refine wx_callP (A := pr__law_may) ?_ | with_reducible refine use__law_may ?_ ?_ ?_ ?_
  | fail)))

theorem ok__law_askable (T : Txt K mg) (G_law_may : FnOk P w K mg base CX0 2 T._law_may.f T._law_may.fd ["_law_web_here", "_law_stand", "_law_tie"] (spD P w K pr__law_may)) : FnOk P w K mg base CX0 3 T._law_askable.f T._law_askable.fd ["_law_web_here", "_law_stand"] (spD P w K pr__law_askable) := by
  refine fnD T._law_askable.F sc__law_askable len__law_askable (fun cdv Ar outer s H E hr => ⟨_, (pss_one (ps_ret (pe_lc (own := [("_law_tie", 2)]) rfl sc__law_askable.nd (pi_range1 rfl T.range (pa_cons (pe_callB (show CallR _ _ (rLen K) from call_len_seq) (by rfl) T.len PySem.boot_len (pa_cons (pe_ix (show IxR _ (rIxT K) from ix_tup) (pv 0) pe_int (fun _ _ => rfl)) pa_nil)) pa_nil)) (blkOk_by (N := N__law_askable) (sc := defScope s__law_askable) (by decide +kernel)) (fun _ _ _ _ _ =>  (pg_name (i := 2) sc__law_askable.nd rfl (by first | exact Or.inl rfl | exact Or.inr rfl))) (fun _ _ _ _ _ =>  pts_one (pt_val (pe_call G_law_may (hr.mono (by decide)) rfl T._law_may.g T._law_may.F.kp T._law_may.b .nil pass0 (pa_cons (pv 0) (pa_cons (pv 1) (pa_cons (pv 2) pa_nil)))))) (fun _ _ _ _ _ =>  (pv 2))))), fun as m W h => ?_⟩)
  try dsimp only [cxOf, Cx.nox, Cx.wish]
  obtain ⟨W', s', rfl, rfl, hW, hs, k⟩ := h
  have h5 := web5 hW
  walk_at "dl"
  refine ⟨by decide, show W'.n ≤ 1000000 by omega, Km.mayAsk W' s', fun t => .d (dN t), fun t ob ht => ?_, fun p => ?_⟩
  · walk_at "dl"
    refine ⟨fun _ => ?_, fun _ => List.prefix_refl _⟩
    walk_at "dl"
    exact List.prefix_refl _
  · exact ⟨_, k p, List.Sublist.refl _⟩
def pr__law_behind : Prom := pr_stand_behind
theorem use__law_behind {U : Arg → List Ob → Prop} {W : Web} {s : Stand} {t : Nat} {b : Bool} (hW : WebOk W) (hs : Km.SP W s) (h : t < W.n) (k : U (.d (dS (Km.behind W s t b))) []) : pr__law_behind [.d (dW W), .d (dS s), .d (dN t), .d (.bl b)] [] U := ⟨W, s, t, b, rfl, rfl, hW, hs, h, k⟩
theorem use__law_behindW {U : Arg → List Ob → Prop} {W : Web} {s : Wide} {t : Nat} {b : Bool} (hW : WebOk W) (hs : Km.SP W (Km.Wide.st s)) (h : t < W.n) (k : U (.d (dS (Km.behind W (Km.Wide.st s) t b))) []) : pr__law_behind [.d (dW W), .d (.tup [dNs s.1, dNs s.2.1]), .d (dN t), .d (.bl b)] [] U := ⟨W, Km.Wide.st s, t, b, rfl, rfl, hW, hs, h, k⟩
theorem len__law_behind (as m W) (h : pr__law_behind as m W) : as.length = 4 := len_stand_behind as m W h
set_option hygiene false in
local macro_rules | `(tactic| walk_at "dl") => `(tactic| (repeat' (first
  | with_reducible refine wx_op ?_ | with_reducible refine wx_int ?_ | with_reducible refine wx_bl ?_ | with_reducible refine wx_non ?_ | with_reducible refine wa_cons ?_ | with_reducible refine wa_nil ?_
  | ((with_reducible apply wx_var); focus exact rfl)
  | with_reducible refine wx_tup ?_ | with_reducible refine wx_cb ?_ | with_reducible refine wx_neg ?_ | with_reducible refine wx_lst0 ?_
  | with_reducible refine ws_ret ?_ | with_reducible refine ws_seq ?_ | with_reducible refine ws_asg ?_ | with_reducible refine ws_drop ?_ | with_reducible refine ws_next ?_ | with_reducible refine ws_if ?_ | with_reducible refine ws_par ?_
  | with_reducible refine wt_test ?_ | with_reducible refine wt_b ?_ | with_reducible refine wt_not ?_ | with_reducible refine wt_and ?_ | with_reducible refine wt_or ?_
  | with_reducible refine wg_name ?_ | with_reducible refine wg_tup2 ?_ | with_reducible refine wg_tup3 ?_
  | with_reducible refine wr_i0 ?_ | with_reducible refine wr_b0 ?_ | with_reducible refine wr_eqI ?_ | with_reducible refine wr_neI ?_ | with_reducible refine wr_i ?_ ?_
  | ((with_reducible apply wr_ixT); focus exact rfl)
  | with_reducible refine wc_abs ?_ | with_reducible refine wc_lenM ?_ | with_reducible refine wc_lenT ?_ | with_reducible refine wc_max2 ?_ | with_reducible refine wc_min2 ?_ | with_reducible refine wc_intB ?_
  | with_reducible refine ⟨_, rfl, ?_⟩ | with_reducible refine ⟨_, _, rfl, ?_⟩
  | with_reducible refine ⟨[_], map1, len1, ?_⟩ | with_reducible refine ⟨[_, _], map2, len2, ?_⟩ | with_reducible refine ⟨[_, _, _], map3, len3, ?_⟩ | with_reducible refine ⟨[_, _, _, _], map4, len4, ?_⟩ | with_reducible refine ⟨[], map0, len0, ?_⟩
  | with_reducible refine wx_lcT ?_ | with_reducible refine wx_lcT2 ?_ | with_reducible refine wx_lcL ?_ | with_reducible refine wx_lcR ?_ | with_reducible refine wx_lcE ?_ | with_reducible refine wx_cut2 ?_ | with_reducible refine wx_cut_2 ?_ | with_reducible refine wt_yes ?_
  | with_reducible refine ws_forT ?_ | with_reducible refine ws_forL ?_ | with_reducible refine ws_forV ?_ | with_reducible refine ws_forR ?_ | with_reducible refine ws_forE ?_ | with_reducible refine ws_forZ ?_
  | with_reducible refine wr_inN ?_ | with_reducible refine wr_inN2 ?_ | ((with_reducible apply wr_ixT); focus exact tie_at (by assumption)) | ((with_reducible apply wr_ixT); focus exact pat_at (by assumption))
  | with_reducible refine wc_tupZ ?_ | with_reducible refine wc_lenZ ?_ | with_reducible refine wc_allZ ?_ | with_reducible refine wc_sumZ ?_ | with_reducible refine wc_sortTN ?_ | with_reducible refine wc_sortLK ?_
  | ((with_reducible refine wr_catN ?_ ?_); focus (first | omega | skip)) | ((with_reducible refine wr_catN1 ?_ ?_); focus (first | omega | skip)) | ((with_reducible refine wr_catN2 ?_ ?_); focus (first | omega | skip))
  | with_reducible refine ⟨_, _, _, rfl, ?_⟩ | with_reducible refine ⟨_, _, _, _, rfl, ?_⟩
  | with_reducible refine wr_catT (xs := [_, _]) (ys := [_]) cat21 ?_ | with_reducible refine wr_catT (xs := [_, _]) (ys := [_, _]) cat22 ?_
  | with_reducible refine ⟨rfl, ?_⟩
  | assumption
  | fail)))

theorem ok__law_behind (T : Txt K mg)  : FnOk P w K mg base CX0 1 T._law_behind.f T._law_behind.fd ["_law_web_here", "_law_stand", "_law_tie", "_law_truth"] (spD P w K pr__law_behind) := by
  refine fnD T._law_behind.F sc__law_behind len__law_behind (fun cdv Ar outer s H E hr => ⟨_, (pss_cons (ps_asg (pv 1) (show PG _ _ (gTup K 2 _) from pg_tup (n := 2) rfl (pgs_cons (pg_name (i := 4) sc__law_behind.nd rfl (by first | exact Or.inl rfl | exact Or.inr rfl)) (pgs_cons (pg_name (i := 5) sc__law_behind.nd rfl (by first | exact Or.inl rfl | exact Or.inr rfl)) pgs_nil))))
    (pss_cons (ps_set (i := 6) sc__law_behind.nd rfl (by first | exact Or.inl rfl | exact Or.inr rfl) (pv 5))
    (pss_cons (ps_if (pt_val (pv 3)) (pss_one (ps_set (i := 6) sc__law_behind.nd rfl (by first | exact Or.inl rfl | exact Or.inr rfl) (pe_callTy (show CallR _ _ (rTupOf K) from call_tuple_of) (by rfl) T.tuple PyProof.Rows.boot_tuple (pa_cons (pe_callB (show CallR _ _ (rSortD K) from cr_sortD hr.units) (by rfl) T.sorted PyProof.Rows.boot_sorted (pa_cons (pe_op (show OpR _ _ (rCatA K) from op_catA) (pv 5) (pe_slice (show SlR _ (rSlA K) from sl_tupA) (pe_ix (show IxR _ (rIxT K) from ix_tup) (pe_ix (show IxR _ (rIxT K) from ix_tup) (pv 0) pe_int (fun _ _ => rfl)) (pv 2) (fun _ _ => rfl)) po_none (po_some pe_int))) pa_nil)) pa_nil)))) pss_nil)
    (pss_one (ps_ret (pe_tup (pa_cons (pe_callTy (show CallR _ _ (rTupOf K) from call_tuple_of) (by rfl) T.tuple PyProof.Rows.boot_tuple (pa_cons (pe_callB (show CallR _ _ (rSortD K) from cr_sortD hr.units) (by rfl) T.sorted PyProof.Rows.boot_sorted (pa_cons (pe_op (show OpR _ _ (rCatA K) from op_catA) (pv 4) (pe_tup (pa_cons (pv 2) pa_nil))) pa_nil)) pa_nil)) (pa_cons (pv 6) pa_nil)))))))), fun as m W h => ?_⟩)
  try dsimp only [cxOf, Cx.nox, Cx.wish]
  obtain ⟨W', s', t, b, rfl, rfl, hW, hs, ht, k⟩ := h
  have h5 := web5 hW
  have hl := hs.len
  have hl2 := hs.tlen
  walk_at "dl"
  refine ⟨fun hc => ?_, fun hc => ?_⟩ <;> subst hc
  · walk_at "dl"
    intro q
    walk_at "dl"
    intro q
    walk_at "dl"
    exact ⟨_, k, List.nil_sublist _⟩
  · walk_at "dl"
    intro q
    walk_at "dl"
    exact ⟨_, k, List.nil_sublist _⟩
def pr__law_group_of : Prom := pr_group_of
theorem use__law_group_of {U : Arg → List Ob → Prop} {G : Groups} {t : Nat} (hl : G.length ≤ 1000) (h : Km.groupOf G t < G.length) (k : U (.d (dN (Km.groupOf G t))) []) : pr__law_group_of [.d (dG G), .d (dN t)] [] U := ⟨G, t, rfl, rfl, hl, h, k⟩
theorem len__law_group_of (as m W) (h : pr__law_group_of as m W) : as.length = 2 := len_group_of as m W h
set_option hygiene false in
local macro_rules | `(tactic| walk_at "dl") => `(tactic| (repeat' (first
  | with_reducible refine wx_op ?_ | with_reducible refine wx_int ?_ | with_reducible refine wx_bl ?_ | with_reducible refine wx_non ?_ | with_reducible refine wa_cons ?_ | with_reducible refine wa_nil ?_
  | ((with_reducible apply wx_var); focus exact rfl)
  | with_reducible refine wx_tup ?_ | with_reducible refine wx_cb ?_ | with_reducible refine wx_neg ?_ | with_reducible refine wx_lst0 ?_
  | with_reducible refine ws_ret ?_ | with_reducible refine ws_seq ?_ | with_reducible refine ws_asg ?_ | with_reducible refine ws_drop ?_ | with_reducible refine ws_next ?_ | with_reducible refine ws_if ?_ | with_reducible refine ws_par ?_
  | with_reducible refine wt_test ?_ | with_reducible refine wt_b ?_ | with_reducible refine wt_not ?_ | with_reducible refine wt_and ?_ | with_reducible refine wt_or ?_
  | with_reducible refine wg_name ?_ | with_reducible refine wg_tup2 ?_ | with_reducible refine wg_tup3 ?_
  | with_reducible refine wr_i0 ?_ | with_reducible refine wr_b0 ?_ | with_reducible refine wr_eqI ?_ | with_reducible refine wr_neI ?_ | with_reducible refine wr_i ?_ ?_
  | ((with_reducible apply wr_ixT); focus exact rfl)
  | with_reducible refine wc_abs ?_ | with_reducible refine wc_lenM ?_ | with_reducible refine wc_lenT ?_ | with_reducible refine wc_max2 ?_ | with_reducible refine wc_min2 ?_ | with_reducible refine wc_intB ?_
  | with_reducible refine ⟨_, rfl, ?_⟩ | with_reducible refine ⟨_, _, rfl, ?_⟩
  | with_reducible refine ⟨[_], map1, len1, ?_⟩ | with_reducible refine ⟨[_, _], map2, len2, ?_⟩ | with_reducible refine ⟨[_, _, _], map3, len3, ?_⟩ | with_reducible refine ⟨[_, _, _, _], map4, len4, ?_⟩ | with_reducible refine ⟨[], map0, len0, ?_⟩
  | with_reducible refine wx_lcT ?_ | with_reducible refine wx_lcT2 ?_ | with_reducible refine wx_lcL ?_ | with_reducible refine wx_lcR ?_ | with_reducible refine wx_lcE ?_ | with_reducible refine wx_cut2 ?_ | with_reducible refine wx_cut_2 ?_ | with_reducible refine wt_yes ?_
  | with_reducible refine ws_forT ?_ | with_reducible refine ws_forL ?_ | with_reducible refine ws_forV ?_ | with_reducible refine ws_forR ?_ | with_reducible refine ws_forE ?_ | with_reducible refine ws_forZ ?_
  | with_reducible refine wr_inN ?_ | with_reducible refine wr_inN2 ?_ | ((with_reducible apply wr_ixT); focus exact tie_at (by assumption)) | ((with_reducible apply wr_ixT); focus exact pat_at (by assumption))
  | with_reducible refine wc_tupZ ?_ | with_reducible refine wc_lenZ ?_ | with_reducible refine wc_allZ ?_ | with_reducible refine wc_sumZ ?_ | with_reducible refine wc_sortTN ?_ | with_reducible refine wc_sortLK ?_
  | ((with_reducible refine wr_catN ?_ ?_); focus (first | omega | skip)) | ((with_reducible refine wr_catN1 ?_ ?_); focus (first | omega | skip)) | ((with_reducible refine wr_catN2 ?_ ?_); focus (first | omega | skip))
  | with_reducible refine ⟨_, _, _, rfl, ?_⟩ | with_reducible refine ⟨_, _, _, _, rfl, ?_⟩
  | with_reducible refine wr_catT (xs := [_, _]) (ys := [_]) cat21 ?_ | with_reducible refine wr_catT (xs := [_, _]) (ys := [_, _]) cat22 ?_
  | with_reducible refine ⟨rfl, ?_⟩
  | assumption
  | fail)))

theorem ok__law_group_of (T : Txt K mg)  : FnOk P w K mg base CX0 1 T._law_group_of.f T._law_group_of.fd ["_law_groups", "_law_tie"] (spD P w K pr__law_group_of) := by
  refine fnD T._law_group_of.F sc__law_group_of len__law_group_of (fun cdv Ar outer s H E hr => ⟨_, (pss_one (ps_ret (pe_ix (show IxR _ (rIxL K) from ix_list) (pe_lc (own := [("_law_k", 2), ("_law_group", 3)]) rfl sc__law_group_of.nd (show PI _ _ _ (iEnumT K _) from pi_enumT rfl T.enumerate (pa_cons (pv 0) pa_nil)) (blkOk_by (N := N__law_group_of) (sc := defScope s__law_group_of) (by decide +kernel)) (fun _ _ _ _ _ =>  (show PG _ _ (gTup K 2 _) from pg_tup (n := 2) rfl (pgs_cons (pg_name (i := 2) sc__law_group_of.nd rfl (by first | exact Or.inl rfl | exact Or.inr rfl)) (pgs_cons (pg_name (i := 3) sc__law_group_of.nd rfl (by first | exact Or.inl rfl | exact Or.inr rfl)) pgs_nil)))) (fun _ _ _ _ _ =>  pts_one (pt_cmpR (show OpR _ _ (rIn K false) from op_in_seq) (pv 1) (pv 3) (by rfl))) (fun _ _ _ _ _ =>  (pv 2))) pe_int (fun _ _ => rfl)))), fun as m W h => ?_⟩)
  try dsimp only [cxOf, Cx.nox, Cx.wish]
  obtain ⟨G, t, rfl, rfl, hl, hg, k⟩ := h
  walk_at "dl"
  refine ⟨List Nat, [], G, dNs, rfl, by decide, by omega, fun _ g => g.contains t, fun i _ => .d (dN i), fun i g ob hi => ?_, fun p => ?_⟩
  · walk_at "dl"
    refine ⟨fun _ => ?_, fun _ => List.prefix_refl _⟩
    walk_at "dl"
    exact List.prefix_refl _
  · walk_at "dl"
    refine wr_ixZ (atI_nat (j := 0) (v := .d (dN (Km.groupOf G t))) ?_) ?_
    · rw [List.getElem?_map, first_idx G t hg]
      rfl
    · exact ⟨_, k, List.nil_sublist _⟩
def pr__law_wide_truths : Prom := pr_truths_of
theorem use__law_wide_truths {U : Arg → List Ob → Prop} {G : Groups} {s : Wide} {t : Nat} (hk : s.2.2.length ≤ 1000) (hl : G.length ≤ 1000) (hg : Km.groupOf G t < G.length) (k : ∀ p, U (.a p) [(p, .lst ((Km.truths G s.2.2 t).map fun b => .d (.bl b)), true)]) : pr__law_wide_truths [.d (dG G), .d (dV s), .d (dN t)] [] U := ⟨G, s, t, rfl, rfl, hk, hl, hg, k⟩
theorem len__law_wide_truths (as m W) (h : pr__law_wide_truths as m W) : as.length = 3 := len_truths_of as m W h
set_option hygiene false in
local macro_rules | `(tactic| walk_at "dl") => `(tactic| (repeat' (first
  | with_reducible refine wx_op ?_ | with_reducible refine wx_int ?_ | with_reducible refine wx_bl ?_ | with_reducible refine wx_non ?_ | with_reducible refine wa_cons ?_ | with_reducible refine wa_nil ?_
  | ((with_reducible apply wx_var); focus exact rfl)
  | with_reducible refine wx_tup ?_ | with_reducible refine wx_cb ?_ | with_reducible refine wx_neg ?_ | with_reducible refine wx_lst0 ?_
  | with_reducible refine ws_ret ?_ | with_reducible refine ws_seq ?_ | with_reducible refine ws_asg ?_ | with_reducible refine ws_drop ?_ | with_reducible refine ws_next ?_ | with_reducible refine ws_if ?_ | with_reducible refine ws_par ?_
  | with_reducible refine wt_test ?_ | with_reducible refine wt_b ?_ | with_reducible refine wt_not ?_ | with_reducible refine wt_and ?_ | with_reducible refine wt_or ?_
  | with_reducible refine wg_name ?_ | with_reducible refine wg_tup2 ?_ | with_reducible refine wg_tup3 ?_
  | with_reducible refine wr_i0 ?_ | with_reducible refine wr_b0 ?_ | with_reducible refine wr_eqI ?_ | with_reducible refine wr_neI ?_ | with_reducible refine wr_i ?_ ?_
  | ((with_reducible apply wr_ixT); focus exact rfl)
  | with_reducible refine wc_abs ?_ | with_reducible refine wc_lenM ?_ | with_reducible refine wc_lenT ?_ | with_reducible refine wc_max2 ?_ | with_reducible refine wc_min2 ?_ | with_reducible refine wc_intB ?_
  | with_reducible refine ⟨_, rfl, ?_⟩ | with_reducible refine ⟨_, _, rfl, ?_⟩
  | with_reducible refine ⟨[_], map1, len1, ?_⟩ | with_reducible refine ⟨[_, _], map2, len2, ?_⟩ | with_reducible refine ⟨[_, _, _], map3, len3, ?_⟩ | with_reducible refine ⟨[_, _, _, _], map4, len4, ?_⟩ | with_reducible refine ⟨[], map0, len0, ?_⟩
  | with_reducible refine wx_lcT ?_ | with_reducible refine wx_lcT2 ?_ | with_reducible refine wx_lcL ?_ | with_reducible refine wx_lcR ?_ | with_reducible refine wx_lcE ?_ | with_reducible refine wx_cut2 ?_ | with_reducible refine wx_cut_2 ?_ | with_reducible refine wt_yes ?_
  | with_reducible refine ws_forT ?_ | with_reducible refine ws_forL ?_ | with_reducible refine ws_forV ?_ | with_reducible refine ws_forR ?_ | with_reducible refine ws_forE ?_ | with_reducible refine ws_forZ ?_
  | with_reducible refine wr_inN ?_ | with_reducible refine wr_inN2 ?_ | ((with_reducible apply wr_ixT); focus exact tie_at (by assumption)) | ((with_reducible apply wr_ixT); focus exact pat_at (by assumption))
  | with_reducible refine wc_tupZ ?_ | with_reducible refine wc_lenZ ?_ | with_reducible refine wc_allZ ?_ | with_reducible refine wc_sumZ ?_ | with_reducible refine wc_sortTN ?_ | with_reducible refine wc_sortLK ?_
  | ((with_reducible refine wr_catN ?_ ?_); focus (first | omega | skip)) | ((with_reducible refine wr_catN1 ?_ ?_); focus (first | omega | skip)) | ((with_reducible refine wr_catN2 ?_ ?_); focus (first | omega | skip))
  | with_reducible refine ⟨_, _, _, rfl, ?_⟩ | with_reducible refine ⟨_, _, _, _, rfl, ?_⟩
  | with_reducible refine wr_catT (xs := [_, _]) (ys := [_]) cat21 ?_ | with_reducible refine wr_catT (xs := [_, _]) (ys := [_, _]) cat22 ?_
  | with_reducible refine ⟨rfl, ?_⟩
  | assumption
  | with_reducible refine wx_callP (A := pr__law_group_of) ?_ | with_reducible refine use__law_group_of ?_ ?_ ?_
  | fail)))

theorem ok__law_wide_truths (T : Txt K mg) (G_law_group_of : FnOk P w K mg base CX0 1 T._law_group_of.f T._law_group_of.fd ["_law_groups", "_law_tie"] (spD P w K pr__law_group_of)) : FnOk P w K mg base CX0 2 T._law_wide_truths.f T._law_wide_truths.fd ["_law_groups", "_law_wide", "_law_tie"] (spD P w K pr__law_wide_truths) := by
  refine fnD T._law_wide_truths.F sc__law_wide_truths len__law_wide_truths (fun cdv Ar outer s H E hr => ⟨_, (pss_cons (ps_set (i := 3) sc__law_wide_truths.nd rfl (by first | exact Or.inl rfl | exact Or.inr rfl) (pe_call G_law_group_of (hr.mono (by decide)) rfl T._law_group_of.g T._law_group_of.F.kp T._law_group_of.b .nil pass0 (pa_cons (pv 0) (pa_cons (pv 2) pa_nil))))
    (pss_cons (ps_setLc (i := 4) (own := [("_law_group", 5), ("_law_truth", 6)]) rfl sc__law_wide_truths.nd rfl rfl (sw_true rfl rfl rfl (by decide +kernel)) (show PI _ _ _ (iTup K _) from pi_tup (pe_ix (show IxR _ (rIxT K) from ix_tup) (pv 1) pe_int (fun _ _ => rfl))) (blkOk_by (N := N__law_wide_truths) (sc := defScope s__law_wide_truths) (by decide +kernel)) (fun _ _ _ _ _ =>  (show PG _ _ (gTup K 2 _) from pg_tup (n := 2) rfl (pgs_cons (pg_name (i := 5) sc__law_wide_truths.nd rfl (by first | exact Or.inl rfl | exact Or.inr rfl)) (pgs_cons (pg_name (i := 6) sc__law_wide_truths.nd rfl (by first | exact Or.inl rfl | exact Or.inr rfl)) pgs_nil)))) (fun _ _ _ _ _ =>  pts_one (pt_cmpR op_eq (pv 5) (pv 3) (nomark _))) (fun _ _ _ _ _ =>  (pv 6)))
    (pss_cons (ps_if (pt_cmpR (show OpR _ _ (rEqD K) from op_eqD hr.units) (pv 4) (pe_lst pa_nil) (nomark _)) (pss_one (ps_ret (pe_lst (pa_cons pe_bl (pa_cons pe_bl pa_nil))))) pss_nil)
    (pss_one (ps_ret (pv 4)))))), fun as m W h => ?_⟩)
  try dsimp only [cxOf, Cx.nox, Cx.wish]
  obtain ⟨G, s', t, rfl, rfl, hk, hl, hg, k⟩ := h
  walk_at "dl"
  refine ⟨Nat × Bool, (0, false), s'.2.2, fun p => dN p.1, fun p => .bl p.2, rfl, ⟨by decide, by decide⟩, by omega, fun p => decide ((p.1 : Int) = (Km.groupOf G t : Int)), fun p => .d (.bl p.2), fun p ob hp => ?_, fun p => ?_⟩
  · walk_at "dl"
    refine ⟨fun _ => ?_, fun _ => List.prefix_refl _⟩
    walk_at "dl"
    exact List.prefix_refl _
  · rw [told_of]
    walk_at "dl"
    intro q0
    apply wr_eqZ (n := 0)
    · exact rfl
    · exact dp_list dp_bls
    walk_at "dl"
    refine ⟨fun hc => ?_, fun hc => ?_⟩
    · rw [truths_nil hc] at k
      walk_at "dl"
      refine wx_lst (wa_cons (wx_bl (wa_cons (wx_bl (wa_nil ⟨len_le rfl, fun q => ?_⟩)))))
      exact ⟨_, k q, List.sublist_append_right ..⟩
    · rw [truths_not hc] at k
      walk_at "dl"
      rw [List.map_map]
      exact ⟨_, k p, List.Sublist.refl _⟩
def pr__law_wide_behind : Prom := pr_wide_behind
theorem use__law_wide_behind {U : Arg → List Ob → Prop} {W : Web} {G : Groups} {s : Wide} {t : Nat} {b : Bool} (hW : WebOk W) (hs : Km.WP W G s) (hG : GrOk W G) (h : t < W.n) (k : U (.d (dV (Km.wbehind W G s t b))) []) : pr__law_wide_behind [.d (dW W), .d (dG G), .d (dV s), .d (dN t), .d (.bl b)] [] U := ⟨W, G, s, t, b, rfl, rfl, hW, hs, hG, h, k⟩
theorem len__law_wide_behind (as m W) (h : pr__law_wide_behind as m W) : as.length = 5 := len_wide_behind as m W h
set_option hygiene false in
local macro_rules | `(tactic| walk_at "dl") => `(tactic| (repeat' (first
  | with_reducible refine wx_op ?_ | with_reducible refine wx_int ?_ | with_reducible refine wx_bl ?_ | with_reducible refine wx_non ?_ | with_reducible refine wa_cons ?_ | with_reducible refine wa_nil ?_
  | ((with_reducible apply wx_var); focus exact rfl)
  | with_reducible refine wx_tup ?_ | with_reducible refine wx_cb ?_ | with_reducible refine wx_neg ?_ | with_reducible refine wx_lst0 ?_
  | with_reducible refine ws_ret ?_ | with_reducible refine ws_seq ?_ | with_reducible refine ws_asg ?_ | with_reducible refine ws_drop ?_ | with_reducible refine ws_next ?_ | with_reducible refine ws_if ?_ | with_reducible refine ws_par ?_
  | with_reducible refine wt_test ?_ | with_reducible refine wt_b ?_ | with_reducible refine wt_not ?_ | with_reducible refine wt_and ?_ | with_reducible refine wt_or ?_
  | with_reducible refine wg_name ?_ | with_reducible refine wg_tup2 ?_ | with_reducible refine wg_tup3 ?_
  | with_reducible refine wr_i0 ?_ | with_reducible refine wr_b0 ?_ | with_reducible refine wr_eqI ?_ | with_reducible refine wr_neI ?_ | with_reducible refine wr_i ?_ ?_
  | ((with_reducible apply wr_ixT); focus exact rfl)
  | with_reducible refine wc_abs ?_ | with_reducible refine wc_lenM ?_ | with_reducible refine wc_lenT ?_ | with_reducible refine wc_max2 ?_ | with_reducible refine wc_min2 ?_ | with_reducible refine wc_intB ?_
  | with_reducible refine ⟨_, rfl, ?_⟩ | with_reducible refine ⟨_, _, rfl, ?_⟩
  | with_reducible refine ⟨[_], map1, len1, ?_⟩ | with_reducible refine ⟨[_, _], map2, len2, ?_⟩ | with_reducible refine ⟨[_, _, _], map3, len3, ?_⟩ | with_reducible refine ⟨[_, _, _, _], map4, len4, ?_⟩ | with_reducible refine ⟨[], map0, len0, ?_⟩
  | with_reducible refine wx_lcT ?_ | with_reducible refine wx_lcT2 ?_ | with_reducible refine wx_lcL ?_ | with_reducible refine wx_lcR ?_ | with_reducible refine wx_lcE ?_ | with_reducible refine wx_cut2 ?_ | with_reducible refine wx_cut_2 ?_ | with_reducible refine wt_yes ?_
  | with_reducible refine ws_forT ?_ | with_reducible refine ws_forL ?_ | with_reducible refine ws_forV ?_ | with_reducible refine ws_forR ?_ | with_reducible refine ws_forE ?_ | with_reducible refine ws_forZ ?_
  | with_reducible refine wr_inN ?_ | with_reducible refine wr_inN2 ?_ | ((with_reducible apply wr_ixT); focus exact tie_at (by assumption)) | ((with_reducible apply wr_ixT); focus exact pat_at (by assumption))
  | with_reducible refine wc_tupZ ?_ | with_reducible refine wc_lenZ ?_ | with_reducible refine wc_allZ ?_ | with_reducible refine wc_sumZ ?_ | with_reducible refine wc_sortTN ?_ | with_reducible refine wc_sortLK ?_
  | ((with_reducible refine wr_catN ?_ ?_); focus (first | omega | skip)) | ((with_reducible refine wr_catN1 ?_ ?_); focus (first | omega | skip)) | ((with_reducible refine wr_catN2 ?_ ?_); focus (first | omega | skip))
  | with_reducible refine ⟨_, _, _, rfl, ?_⟩ | with_reducible refine ⟨_, _, _, _, rfl, ?_⟩
  | with_reducible refine wr_catT (xs := [_, _]) (ys := [_]) cat21 ?_ | with_reducible refine wr_catT (xs := [_, _]) (ys := [_, _]) cat22 ?_
  | with_reducible refine ⟨rfl, ?_⟩
  | assumption
  | with_reducible refine wx_callP (A := pr__law_group_of) ?_ | with_reducible refine use__law_group_of ?_ ?_ ?_
  | with_reducible refine use__law_behindW ?_ ?_ ?_ ?_
  | with_reducible refine wx_callP (A := pr__law_behind) ?_ | with_reducible refine use__law_behind ?_ ?_ ?_ ?_
  | fail)))

theorem ok__law_wide_behind (T : Txt K mg) (G_law_behind : FnOk P w K mg base CX0 1 T._law_behind.f T._law_behind.fd ["_law_web_here", "_law_stand", "_law_tie", "_law_truth"] (spD P w K pr__law_behind)) (G_law_group_of : FnOk P w K mg base CX0 1 T._law_group_of.f T._law_group_of.fd ["_law_groups", "_law_tie"] (spD P w K pr__law_group_of)) : FnOk P w K mg base CX0 2 T._law_wide_behind.f T._law_wide_behind.fd ["_law_web_here", "_law_groups", "_law_wide", "_law_tie", "_law_truth"] (spD P w K pr__law_wide_behind) := by
  refine fnD T._law_wide_behind.F sc__law_wide_behind len__law_wide_behind (fun cdv Ar outer s H E hr => ⟨_, (pss_cons (ps_set (i := 5) sc__law_wide_behind.nd rfl (by first | exact Or.inl rfl | exact Or.inr rfl) (pe_call G_law_group_of (hr.mono (by decide)) rfl T._law_group_of.g T._law_group_of.F.kp T._law_group_of.b .nil pass0 (pa_cons (pv 1) (pa_cons (pv 3) pa_nil))))
    (pss_cons (ps_setLc (i := 6) (own := [("_law_pair", 7)]) rfl sc__law_wide_behind.nd rfl rfl (sw_true rfl rfl rfl (by decide +kernel)) (show PI _ _ _ (iTup K _) from pi_tup (pe_ix (show IxR _ (rIxT K) from ix_tup) (pv 2) pe_int (fun _ _ => rfl))) (blkOk_by (N := N__law_wide_behind) (sc := defScope s__law_wide_behind) (by decide +kernel)) (fun _ _ _ _ _ =>  (pg_name (i := 7) sc__law_wide_behind.nd rfl (by first | exact Or.inl rfl | exact Or.inr rfl))) (fun _ _ _ _ _ =>  pts_one (pt_cmpR op_ne (pe_ix (show IxR _ (rIxT K) from ix_tup) (pv 7) pe_int (fun _ _ => rfl)) (pv 5) (nomark _))) (fun _ _ _ _ _ =>  (pv 7)))
    (pss_one (ps_ret (pe_op (show OpR _ _ (rCatA K) from op_catA) (pe_call G_law_behind (hr.mono (by decide)) rfl T._law_behind.g T._law_behind.F.kp T._law_behind.b .nil pass0 (pa_cons (pv 0) (pa_cons (pe_slice (show SlR _ (rSlA K) from sl_tupA) (pv 2) po_none (po_some pe_int)) (pa_cons (pv 3) (pa_cons (pv 4) pa_nil))))) (pe_tup (pa_cons (pe_callTy (show CallR _ _ (rTupOf K) from call_tuple_of) (by rfl) T.tuple PyProof.Rows.boot_tuple (pa_cons (pe_callB (show CallR _ _ (rSortD K) from cr_sortD hr.units) (by rfl) T.sorted PyProof.Rows.boot_sorted (pa_cons (pe_op op_cat (pv 6) (pe_lst (pa_cons (pe_tup (pa_cons (pv 5) (pa_cons (pv 4) pa_nil))) pa_nil))) pa_nil)) pa_nil)) pa_nil))))))), fun as m W h => ?_⟩)
  try dsimp only [cxOf, Cx.nox, Cx.wish]
  obtain ⟨W', G, s', t, b, rfl, rfl, hW, hs, hG, ht, k⟩ := h
  have hl := hG.few
  have hg := hG.has t ht
  have h5 := web5 hW
  have hk := hs.klen
  have hsp := hs.sp
  walk_at "dl"
  refine ⟨Nat × Bool, (0, false), s'.2.2, dP, rfl, by decide, by omega, fun p => !decide ((p.1 : Int) = (Km.groupOf G t : Int)), fun p => .d (dP p), fun p ob hp => ?_, fun p => ?_⟩
  · walk_at "dl"
    refine ⟨fun _ => ?_, fun _ => List.prefix_refl _⟩
    walk_at "dl"
    exact List.prefix_refl _
  · walk_at "dl"
    refine wx_lst (wa_cons (wx_tup (wa_cons ?_)))
    walk_at "dl"
    refine ⟨len_le rfl, fun q => ?_⟩
    apply wr_catZ (n := 0)
    · exact rfl
    · rw [List.length_map]
      have := List.length_filter_le (fun p : Nat × Bool => !decide ((p.1 : Int) = (Km.groupOf G t : Int))) s'.2.2
      show _ + 1 ≤ _
      omega
    intro l
    rw [known_of]
    walk_at "dl"
    intro l2
    walk_at "dl"
    exact ⟨_, k, List.nil_sublist _⟩
end
end Dl

/-! what an ask is worth -/
namespace Dl
open PySem PySem.Spec L2
open Km (Web Stand Wide Known Groups WebOk)
section
variable {P : Program} {w : World} {K : PySem.W.Frag} {mg : Str → Option Value} {base : Heap}
theorem told_cases {l : List Bool} (h : l.length ≤ 1) : l = [] ∨ l = [true] ∨ l = [false] := by
  match l, h with
  | [], _ => exact .inl rfl
  | [true], _ => exact .inr (.inl rfl)
  | [false], _ => exact .inr (.inr rfl)
  | _ :: _ :: _, h => simp at h
def pr_wide_ask_worth : Prom := fun as m U => ∃ (W : Web) (G : Groups) (s : Wide) (t : Nat) (d : Addr) (kvs : List (NestedKey × D)) (c : Bool), as = [.d (dW W), .d (dG G), .a d, .d (dV s), .d (dN t)] ∧ m = [(d, .dct kvs, c)] ∧ WebOk W ∧ Km.WP W G s ∧ GrOk W G ∧ t < W.n ∧
  (∀ b ∈ Km.truths G s.2.2 t, lookN kvs (key (dV (Km.wbehind W G s t b))) = some (dF (Km.vW W G (Km.wbehind W G s t b)))) ∧ U (.d (dF (Km.askW W G (Km.vW W G) s t))) []
theorem use_wide_ask_worth {U : Arg → List Ob → Prop} {W : Web} {G : Groups} {s : Wide} {t : Nat} {d : Addr} {kvs : List (NestedKey × D)} {c : Bool} (hW : WebOk W) (hs : Km.WP W G s) (hG : GrOk W G) (ht : t < W.n) (hl : ∀ b ∈ Km.truths G s.2.2 t, lookN kvs (key (dV (Km.wbehind W G s t b))) = some (dF (Km.vW W G (Km.wbehind W G s t b)))) (k : U (.d (dF (Km.askW W G (Km.vW W G) s t))) []) :
    pr_wide_ask_worth [.d (dW W), .d (dG G), .a d, .d (dV s), .d (dN t)] [(d, .dct kvs, c)] U := ⟨W, G, s, t, d, kvs, c, rfl, rfl, hW, hs, hG, ht, hl, k⟩
theorem len_wide_ask_worth (as m W) (h : pr_wide_ask_worth as m W) : as.length = 5 := by obtain ⟨_, _, _, _, _, _, _, rfl, _⟩ := h; rfl
set_option hygiene false in
local macro_rules | `(tactic| walk_at "dl") => `(tactic| (repeat' (first
  | with_reducible refine wx_op ?_ | with_reducible refine wx_int ?_ | with_reducible refine wx_bl ?_ | with_reducible refine wx_non ?_ | with_reducible refine wa_cons ?_ | with_reducible refine wa_nil ?_
  | ((with_reducible apply wx_var); focus exact rfl)
  | with_reducible refine wx_tup ?_ | with_reducible refine wx_cb ?_ | with_reducible refine wx_neg ?_ | with_reducible refine wx_lst0 ?_
  | with_reducible refine ws_ret ?_ | with_reducible refine ws_seq ?_ | with_reducible refine ws_asg ?_ | with_reducible refine ws_drop ?_ | with_reducible refine ws_next ?_ | with_reducible refine ws_if ?_ | with_reducible refine ws_par ?_
  | with_reducible refine wt_test ?_ | with_reducible refine wt_b ?_ | with_reducible refine wt_not ?_ | with_reducible refine wt_and ?_ | with_reducible refine wt_or ?_
  | with_reducible refine wg_name ?_ | with_reducible refine wg_tup2 ?_ | with_reducible refine wg_tup3 ?_
  | with_reducible refine wr_i0 ?_ | with_reducible refine wr_b0 ?_ | with_reducible refine wr_eqI ?_ | with_reducible refine wr_neI ?_ | with_reducible refine wr_i ?_ ?_
  | ((with_reducible apply wr_ixT); focus exact rfl)
  | with_reducible refine wc_abs ?_ | with_reducible refine wc_lenM ?_ | with_reducible refine wc_lenT ?_ | with_reducible refine wc_max2 ?_ | with_reducible refine wc_min2 ?_ | with_reducible refine wc_intB ?_
  | with_reducible refine ⟨_, rfl, ?_⟩ | with_reducible refine ⟨_, _, rfl, ?_⟩
  | with_reducible refine ⟨[_], map1, len1, ?_⟩ | with_reducible refine ⟨[_, _], map2, len2, ?_⟩ | with_reducible refine ⟨[_, _, _], map3, len3, ?_⟩ | with_reducible refine ⟨[_, _, _, _], map4, len4, ?_⟩ | with_reducible refine ⟨[], map0, len0, ?_⟩
  | with_reducible refine wx_lcT ?_ | with_reducible refine wx_lcT2 ?_ | with_reducible refine wx_lcL ?_ | with_reducible refine wx_lcR ?_ | with_reducible refine wx_lcE ?_ | with_reducible refine wx_cut2 ?_ | with_reducible refine wx_cut_2 ?_ | with_reducible refine wt_yes ?_
  | with_reducible refine ws_forT ?_ | with_reducible refine ws_forL ?_ | with_reducible refine ws_forV ?_ | with_reducible refine ws_forR ?_ | with_reducible refine ws_forE ?_ | with_reducible refine ws_forZ ?_
  | with_reducible refine wr_inN ?_ | with_reducible refine wr_inN2 ?_ | ((with_reducible apply wr_ixT); focus exact tie_at (by assumption)) | ((with_reducible apply wr_ixT); focus exact pat_at (by assumption))
  | with_reducible refine wc_tupZ ?_ | with_reducible refine wc_lenZ ?_ | with_reducible refine wc_allZ ?_ | with_reducible refine wc_sumZ ?_ | with_reducible refine wc_sortTN ?_ | with_reducible refine wc_sortLK ?_
  | ((with_reducible refine wr_catN ?_ ?_); focus (first | omega | skip)) | ((with_reducible refine wr_catN1 ?_ ?_); focus (first | omega | skip)) | ((with_reducible refine wr_catN2 ?_ ?_); focus (first | omega | skip))
  | with_reducible refine ⟨_, _, _, rfl, ?_⟩ | with_reducible refine ⟨_, _, _, _, rfl, ?_⟩
  | with_reducible refine wr_catT (xs := [_, _]) (ys := [_]) cat21 ?_ | with_reducible refine wr_catT (xs := [_, _]) (ys := [_, _]) cat22 ?_
  | with_reducible refine ⟨rfl, ?_⟩
  | assumption
  | with_reducible refine wx_call0 (A := pr_truths_of) ?_ | with_reducible refine use_truths_of ?_ ?_ ?_ ?_
  | with_reducible refine wx_callP (A := pr_wide_behind) ?_ | with_reducible refine use_wide_behind ?_ ?_ ?_ ?_ ?_
  | with_reducible refine wx_callP (A := pr_average) ?_ | with_reducible refine use_average ?_ ?_ ?_ ?_ ?_
  | with_reducible refine use_plus1 ?_ ?_ ?_
  | with_reducible refine wx_callP (A := pr_plus) ?_ | with_reducible refine use_plus ?_ ?_ ?_
  | with_reducible refine wx_callP (A := pr_chance_in) ?_ | with_reducible refine use_chance_in ?_ ?_
  | with_reducible refine wx_callP (A := pr_worth_in) ?_ | with_reducible refine use_worth_in ?_ ?_
  | fail)))

theorem ok_wide_ask_worth (T : Txt K mg) (Gaverage : FnOk P w K mg base CX0 4 T.average.f T.average.fd ["chance", "worth", "yes", "no"] (spD P w K pr_average)) (Gchance_in : FnOk P w K mg base CX0 1 T.chance_in.f T.chance_in.fd ["web", "tie"] (spD P w K pr_chance_in)) (Gplus : FnOk P w K mg base CX0 3 T.plus.f T.plus.fd ["one", "other"] (spD P w K pr_plus)) (Gtruths_of : FnOk P w K mg base CX0 2 T.truths_of.f T.truths_of.fd ["groups", "wide", "tie"] (spD P w K pr_truths_of)) (Gwide_behind : FnOk P w K mg base CX0 3 T.wide_behind.f T.wide_behind.fd ["web", "groups", "wide", "tie", "truth"] (spD P w K pr_wide_behind)) (Gworth_in : FnOk P w K mg base CX0 1 T.worth_in.f T.worth_in.fd ["web", "tie"] (spD P w K pr_worth_in)) : FnOk P w K mg base CX0 5 T.wide_ask_worth.f T.wide_ask_worth.fd ["web", "groups", "worths", "wide", "tie"] (spD P w K pr_wide_ask_worth) := by
  refine fnD T.wide_ask_worth.F sc_wide_ask_worth len_wide_ask_worth (fun cdv Ar outer s H E hr => ⟨_, (pss_cons (ps_set (i := 5) sc_wide_ask_worth.nd rfl (by first | exact Or.inl rfl | exact Or.inr rfl) (pe_call Gtruths_of (hr.mono (by decide)) rfl T.truths_of.g T.truths_of.F.kp T.truths_of.b .nil pass0 (pa_cons (pv 1) (pa_cons (pv 3) (pa_cons (pv 4) pa_nil)))))
    (pss_cons (ps_setLc (i := 6) (own := [("truth", 7)]) rfl sc_wide_ask_worth.nd rfl rfl (sw_true rfl rfl rfl (by decide +kernel)) (show PI _ _ _ (iList K _) from pi_list (pv 5)) (blkOk_by (N := N_wide_ask_worth) (sc := defScope s_wide_ask_worth) (by decide +kernel)) (fun _ _ _ _ _ =>  (pg_name (i := 7) sc_wide_ask_worth.nd rfl (by first | exact Or.inl rfl | exact Or.inr rfl))) (fun _ _ _ _ _ =>  pts_nil) (fun _ _ _ _ _ =>  (pe_call Gwide_behind (hr.mono (by decide)) rfl T.wide_behind.g T.wide_behind.F.kp T.wide_behind.b .nil pass0 (pa_cons (pv 0) (pa_cons (pv 1) (pa_cons (pv 3) (pa_cons (pv 4) (pa_cons (pv 7) pa_nil))))))))
    (pss_cons (ps_if (pt_not (pt_val (pe_callB (show CallR _ _ (rAll K) from cr_all rfl) (by rfl) T.all PyProof.Rows.boot_all (pa_cons (pe_lc (own := [("stand", 8)]) rfl sc_wide_ask_worth.nd (show PI _ _ _ (iList K _) from pi_list (pv 6)) (blkOk_by (N := N_wide_ask_worth) (sc := defScope s_wide_ask_worth) (by decide +kernel)) (fun _ _ _ _ _ =>  (pg_name (i := 8) sc_wide_ask_worth.nd rfl (by first | exact Or.inl rfl | exact Or.inr rfl))) (fun _ _ _ _ _ =>  pts_nil) (fun _ _ _ _ _ =>  (pe_cmpR (show OpR _ _ (rNIn P w K false) from op_nin hr.units) (pv 8) (pv 2) (by rfl)))) pa_nil)))) (pss_one (ps_ret pe_non)) pss_nil)
    (pss_cons (ps_if (pt_cmpR op_eq (pe_callB (show CallR _ _ (rLen K) from call_len_seq) (by rfl) T.len PySem.boot_len (pa_cons (pv 5) pa_nil)) pe_int (nomark _)) (pss_one (ps_ret (pe_call Gaverage (hr.mono (by decide)) rfl T.average.g T.average.F.kp T.average.b .nil pass0 (pa_cons (pe_call Gchance_in (hr.mono (by decide)) rfl T.chance_in.g T.chance_in.F.kp T.chance_in.b .nil pass0 (pa_cons (pv 0) (pa_cons (pv 4) pa_nil))) (pa_cons (pe_call Gworth_in (hr.mono (by decide)) rfl T.worth_in.g T.worth_in.F.kp T.worth_in.b .nil pass0 (pa_cons (pv 0) (pa_cons (pv 4) pa_nil))) (pa_cons (pe_ix (show IxR _ (rNGet P w K) from ix_nget hr.units) (pv 2) (pe_ix (show IxR _ (rIxL K) from ix_list) (pv 6) pe_int (fun _ _ => rfl)) (fun _ _ => rfl)) (pa_cons (pe_ix (show IxR _ (rNGet P w K) from ix_nget hr.units) (pv 2) (pe_ix (show IxR _ (rIxL K) from ix_list) (pv 6) pe_int (fun _ _ => rfl)) (fun _ _ => rfl)) pa_nil))))))) pss_nil)
    (pss_cons (ps_if (pt_val (pe_ix (show IxR _ (rIxL K) from ix_list) (pv 5) pe_int (fun _ _ => rfl))) (pss_one (ps_ret (pe_call Gplus (hr.mono (by decide)) rfl T.plus.g T.plus.F.kp T.plus.b .nil pass0 (pa_cons (pe_tup (pa_cons (pe_call Gworth_in (hr.mono (by decide)) rfl T.worth_in.g T.worth_in.F.kp T.worth_in.b .nil pass0 (pa_cons (pv 0) (pa_cons (pv 4) pa_nil))) (pa_cons pe_int pa_nil))) (pa_cons (pe_ix (show IxR _ (rNGet P w K) from ix_nget hr.units) (pv 2) (pe_ix (show IxR _ (rIxL K) from ix_list) (pv 6) pe_int (fun _ _ => rfl)) (fun _ _ => rfl)) pa_nil))))) pss_nil)
    (pss_one (ps_ret (pe_ix (show IxR _ (rNGet P w K) from ix_nget hr.units) (pv 2) (pe_ix (show IxR _ (rIxL K) from ix_list) (pv 6) pe_int (fun _ _ => rfl)) (fun _ _ => rfl))))))))), fun as m W h => ?_⟩)
  try dsimp only [cxOf, Cx.nox, Cx.wish]
  obtain ⟨W', G, s', t, d, kvs, c, rfl, rfl, hW, hs, hG, ht, hlook, k⟩ := h
  have h5 := web5 hW
  have hl := hG.few
  have hg := hG.has t ht
  have hk : s'.2.2.length ≤ 1000 := by have := hs.klen; omega
  rcases told_cases (Km.told_one hs t) with htl | htl | htl
  · have htr : Km.truths G s'.2.2 t = [true, false] := by unfold Km.truths; rw [htl]; rfl
    have hsome : ∀ u ∈ [Km.wbehind W' G s' t true, Km.wbehind W' G s' t false], (lookN kvs (key (dV u))).isSome = true := fun u hu => by
      rcases List.mem_cons.mp hu with rfl | hu
      · rw [hlook true (by rw [htr]; decide)]; rfl
      · rw [List.mem_singleton.mp hu, hlook false (by rw [htr]; decide)]; rfl
    have e : Km.askW W' G (Km.vW W' G) s' t = Km.average (W'.tie t).c (W'.tie t).w (Km.vW W' G (Km.wbehind W' G s' t true)) (Km.vW W' G (Km.wbehind W' G s' t false)) := by unfold Km.askW; rw [htl]
    rw [e] at k
    walk_at "dl"
    intro p
    rw [htr]
    walk_at "dl"
    refine ⟨Bool, true, [true, false], fun b => .d (.bl b), p, 1, true, rfl, rfl, by decide, by decide, fun _ => true, fun b => .d (dV (Km.wbehind W' G s' t b)), fun b ob hb => ?_, fun q => ?_⟩
    · walk_at "dl"
      refine ⟨fun _ => ?_, fun h => nomatch h⟩
      walk_at "dl"
      exact List.prefix_refl _
    walk_at "dl"
    refine ⟨Wide, ([], [], []), [Km.wbehind W' G s' t true, Km.wbehind W' G s' t false], fun u => .d (dV u), q, 2, true, rfl, rfl, by decide, len_le rfl, fun _ => true, fun _ => .d (.bl true), fun u ob hu => ?_, fun q2 => ?_⟩
    · walk_at "dl"
      refine ⟨fun _ => ?_, fun h => nomatch h⟩
      walk_at "dl"
      apply wr_nin (n := 0)
      · exact rfl
      · exact kd_V _
      · refine ⟨?_, List.prefix_refl _⟩
        show Arg.d (.bl (lookN kvs (key (dV u))).isSome) = _
        rw [hsome u hu]
    walk_at "dl"
    refine wc_allZ (bs := [true, true]) ?_
    walk_at "dl"
    refine ⟨fun hc => absurd hc (by decide), fun _ => ?_⟩
    walk_at "dl"
    refine wc_lenL (n := 1) rfl ?_
    walk_at "dl"
    refine ⟨fun hc => ?_, fun hc => absurd hc (by decide : ¬ decide ((2 : Int) = 2) = false)⟩
    walk_at "dl"
    refine wr_ixL (n := 2) rfl (atI_nat (j := 0) rfl) ?_
    apply wr_nget (n := 0)
    · exact rfl
    · exact kd_V _
    · exact hlook true (by rw [htr]; decide)
    walk_at "dl"
    refine wr_ixL (n := 2) rfl (atI_nat (j := 1) rfl) ?_
    apply wr_nget (n := 0)
    · exact rfl
    · exact kd_V _
    · exact hlook false (by rw [htr]; decide)
    walk_at "dl"
    · exact (hW.ch t).1
    · exact (hW.ch t).2
    · exact Km.vW_fine hW _
    · exact Km.vW_fine hW _
    · exact ⟨_, k, List.nil_sublist _⟩
  · have htr : Km.truths G s'.2.2 t = [true] := by unfold Km.truths; rw [htl]; rfl
    have hsome : ∀ u ∈ [Km.wbehind W' G s' t true], (lookN kvs (key (dV u))).isSome = true := fun u hu => by
      rw [List.mem_singleton.mp hu, hlook true (by rw [htr]; decide)]; rfl
    have e : Km.askW W' G (Km.vW W' G) s' t = Km.plus (((W'.tie t).w : Int), 1) (Km.vW W' G (Km.wbehind W' G s' t true)) := by unfold Km.askW; rw [htl]
    rw [e] at k
    walk_at "dl"
    intro p
    rw [htr]
    walk_at "dl"
    refine ⟨Bool, true, [true], fun b => .d (.bl b), p, 1, true, rfl, rfl, by decide, by decide, fun _ => true, fun b => .d (dV (Km.wbehind W' G s' t b)), fun b ob hb => ?_, fun q => ?_⟩
    · walk_at "dl"
      refine ⟨fun _ => ?_, fun h => nomatch h⟩
      walk_at "dl"
      exact List.prefix_refl _
    walk_at "dl"
    refine ⟨Wide, ([], [], []), [Km.wbehind W' G s' t true], fun u => .d (dV u), q, 2, true, rfl, rfl, by decide, len_le rfl, fun _ => true, fun _ => .d (.bl true), fun u ob hu => ?_, fun q2 => ?_⟩
    · walk_at "dl"
      refine ⟨fun _ => ?_, fun h => nomatch h⟩
      walk_at "dl"
      apply wr_nin (n := 0)
      · exact rfl
      · exact kd_V _
      · refine ⟨?_, List.prefix_refl _⟩
        show Arg.d (.bl (lookN kvs (key (dV u))).isSome) = _
        rw [hsome u hu]
    walk_at "dl"
    refine wc_allZ (bs := [true]) ?_
    walk_at "dl"
    refine ⟨fun hc => absurd hc (by decide), fun _ => ?_⟩
    walk_at "dl"
    refine wc_lenL (n := 1) rfl ?_
    walk_at "dl"
    refine ⟨fun hc => absurd hc (by decide : ¬ decide ((1 : Int) = 2) = true), fun hc => ?_⟩
    walk_at "dl"
    refine wr_ixL (n := 1) rfl (atI_nat (j := 0) rfl) ?_
    walk_at "dl"
    refine ⟨fun _ => ?_, fun h => nomatch h⟩
    walk_at "dl"
    refine wr_ixL (n := 2) rfl (atI_nat (j := 0) rfl) ?_
    apply wr_nget (n := 0)
    · exact rfl
    · exact kd_V _
    · exact hlook true (by rw [htr]; decide)
    walk_at "dl"
    · exact Ok.nat (by have := (hW.ch t).2; omega)
    · exact Ok.fine (Km.vW_fine hW _)
    · exact ⟨_, k, List.nil_sublist _⟩
  · have htr : Km.truths G s'.2.2 t = [false] := by unfold Km.truths; rw [htl]; rfl
    have hsome : ∀ u ∈ [Km.wbehind W' G s' t false], (lookN kvs (key (dV u))).isSome = true := fun u hu => by
      rw [List.mem_singleton.mp hu, hlook false (by rw [htr]; decide)]; rfl
    have e : Km.askW W' G (Km.vW W' G) s' t = Km.vW W' G (Km.wbehind W' G s' t false) := by unfold Km.askW; rw [htl]
    rw [e] at k
    walk_at "dl"
    intro p
    rw [htr]
    walk_at "dl"
    refine ⟨Bool, true, [false], fun b => .d (.bl b), p, 1, true, rfl, rfl, by decide, by decide, fun _ => true, fun b => .d (dV (Km.wbehind W' G s' t b)), fun b ob hb => ?_, fun q => ?_⟩
    · walk_at "dl"
      refine ⟨fun _ => ?_, fun h => nomatch h⟩
      walk_at "dl"
      exact List.prefix_refl _
    walk_at "dl"
    refine ⟨Wide, ([], [], []), [Km.wbehind W' G s' t false], fun u => .d (dV u), q, 2, true, rfl, rfl, by decide, len_le rfl, fun _ => true, fun _ => .d (.bl true), fun u ob hu => ?_, fun q2 => ?_⟩
    · walk_at "dl"
      refine ⟨fun _ => ?_, fun h => nomatch h⟩
      walk_at "dl"
      apply wr_nin (n := 0)
      · exact rfl
      · exact kd_V _
      · refine ⟨?_, List.prefix_refl _⟩
        show Arg.d (.bl (lookN kvs (key (dV u))).isSome) = _
        rw [hsome u hu]
    walk_at "dl"
    refine wc_allZ (bs := [true]) ?_
    walk_at "dl"
    refine ⟨fun hc => absurd hc (by decide), fun _ => ?_⟩
    walk_at "dl"
    refine wc_lenL (n := 1) rfl ?_
    walk_at "dl"
    refine ⟨fun hc => absurd hc (by decide : ¬ decide ((1 : Int) = 2) = true), fun hc => ?_⟩
    walk_at "dl"
    refine wr_ixL (n := 1) rfl (atI_nat (j := 0) rfl) ?_
    walk_at "dl"
    refine ⟨(fun h => nomatch h), fun _ => ?_⟩
    walk_at "dl"
    refine wr_ixL (n := 2) rfl (atI_nat (j := 0) rfl) ?_
    apply wr_nget (n := 0)
    · exact rfl
    · exact kd_V _
    · exact hlook false (by rw [htr]; decide)
    exact ⟨_, k, List.nil_sublist _⟩
end
end Dl

/-! what an ask is worth, 2 -/
namespace Dl
open PySem PySem.Spec L2
open Km (Web Stand Wide Known Groups WebOk)
section
variable {P : Program} {w : World} {K : PySem.W.Frag} {mg : Str → Option Value} {base : Heap}
def pr_ask_worth : Prom := fun as m U => ∃ (W : Web) (s : Stand) (t : Nat) (d : Addr) (kvs : List (NestedKey × D)) (c : Bool), as = [.d (dW W), .a d, .d (dS s), .d (dN t)] ∧ m = [(d, .dct kvs, c)] ∧ WebOk W ∧ Km.SP W s ∧ t < W.n ∧
  (∀ b, lookN kvs (key (dS (Km.behind W s t b))) = some (dF (Km.vS W (Km.behind W s t b)))) ∧ U (.d (dF (Km.askS W (Km.vS W) s t))) []
theorem use_ask_worth {U : Arg → List Ob → Prop} {W : Web} {s : Stand} {t : Nat} {d : Addr} {kvs : List (NestedKey × D)} {c : Bool} (hW : WebOk W) (hs : Km.SP W s) (ht : t < W.n) (hl : ∀ b, lookN kvs (key (dS (Km.behind W s t b))) = some (dF (Km.vS W (Km.behind W s t b)))) (k : U (.d (dF (Km.askS W (Km.vS W) s t))) []) :
    pr_ask_worth [.d (dW W), .a d, .d (dS s), .d (dN t)] [(d, .dct kvs, c)] U := ⟨W, s, t, d, kvs, c, rfl, rfl, hW, hs, ht, hl, k⟩
theorem len_ask_worth (as m W) (h : pr_ask_worth as m W) : as.length = 4 := by obtain ⟨_, _, _, _, _, _, rfl, _⟩ := h; rfl
set_option hygiene false in
local macro_rules | `(tactic| walk_at "dl") => `(tactic| (repeat' (first
  | with_reducible refine wx_op ?_ | with_reducible refine wx_int ?_ | with_reducible refine wx_bl ?_ | with_reducible refine wx_non ?_ | with_reducible refine wa_cons ?_ | with_reducible refine wa_nil ?_
  | ((with_reducible apply wx_var); focus exact rfl)
  | with_reducible refine wx_tup ?_ | with_reducible refine wx_cb ?_ | with_reducible refine wx_neg ?_ | with_reducible refine wx_lst0 ?_
  | with_reducible refine ws_ret ?_ | with_reducible refine ws_seq ?_ | with_reducible refine ws_asg ?_ | with_reducible refine ws_drop ?_ | with_reducible refine ws_next ?_ | with_reducible refine ws_if ?_ | with_reducible refine ws_par ?_
  | with_reducible refine wt_test ?_ | with_reducible refine wt_b ?_ | with_reducible refine wt_not ?_ | with_reducible refine wt_and ?_ | with_reducible refine wt_or ?_
  | with_reducible refine wg_name ?_ | with_reducible refine wg_tup2 ?_ | with_reducible refine wg_tup3 ?_
  | with_reducible refine wr_i0 ?_ | with_reducible refine wr_b0 ?_ | with_reducible refine wr_eqI ?_ | with_reducible refine wr_neI ?_ | with_reducible refine wr_i ?_ ?_
  | ((with_reducible apply wr_ixT); focus exact rfl)
  | with_reducible refine wc_abs ?_ | with_reducible refine wc_lenM ?_ | with_reducible refine wc_lenT ?_ | with_reducible refine wc_max2 ?_ | with_reducible refine wc_min2 ?_ | with_reducible refine wc_intB ?_
  | with_reducible refine ⟨_, rfl, ?_⟩ | with_reducible refine ⟨_, _, rfl, ?_⟩
  | with_reducible refine ⟨[_], map1, len1, ?_⟩ | with_reducible refine ⟨[_, _], map2, len2, ?_⟩ | with_reducible refine ⟨[_, _, _], map3, len3, ?_⟩ | with_reducible refine ⟨[_, _, _, _], map4, len4, ?_⟩ | with_reducible refine ⟨[], map0, len0, ?_⟩
  | with_reducible refine wx_lcT ?_ | with_reducible refine wx_lcT2 ?_ | with_reducible refine wx_lcL ?_ | with_reducible refine wx_lcR ?_ | with_reducible refine wx_lcE ?_ | with_reducible refine wx_cut2 ?_ | with_reducible refine wx_cut_2 ?_ | with_reducible refine wt_yes ?_
  | with_reducible refine ws_forT ?_ | with_reducible refine ws_forL ?_ | with_reducible refine ws_forV ?_ | with_reducible refine ws_forR ?_ | with_reducible refine ws_forE ?_ | with_reducible refine ws_forZ ?_
  | with_reducible refine wr_inN ?_ | with_reducible refine wr_inN2 ?_ | ((with_reducible apply wr_ixT); focus exact tie_at (by assumption)) | ((with_reducible apply wr_ixT); focus exact pat_at (by assumption))
  | with_reducible refine wc_tupZ ?_ | with_reducible refine wc_lenZ ?_ | with_reducible refine wc_allZ ?_ | with_reducible refine wc_sumZ ?_ | with_reducible refine wc_sortTN ?_ | with_reducible refine wc_sortLK ?_
  | ((with_reducible refine wr_catN ?_ ?_); focus (first | omega | skip)) | ((with_reducible refine wr_catN1 ?_ ?_); focus (first | omega | skip)) | ((with_reducible refine wr_catN2 ?_ ?_); focus (first | omega | skip))
  | with_reducible refine ⟨_, _, _, rfl, ?_⟩ | with_reducible refine ⟨_, _, _, _, rfl, ?_⟩
  | with_reducible refine wr_catT (xs := [_, _]) (ys := [_]) cat21 ?_ | with_reducible refine wr_catT (xs := [_, _]) (ys := [_, _]) cat22 ?_
  | with_reducible refine ⟨rfl, ?_⟩
  | assumption
  | with_reducible refine wx_callP (A := pr_stand_behind) ?_ | with_reducible refine use_stand_behind ?_ ?_ ?_ ?_
  | with_reducible refine wx_callP (A := pr_average) ?_ | with_reducible refine use_average ?_ ?_ ?_ ?_ ?_
  | with_reducible refine wx_callP (A := pr_chance_in) ?_ | with_reducible refine use_chance_in ?_ ?_
  | with_reducible refine wx_callP (A := pr_worth_in) ?_ | with_reducible refine use_worth_in ?_ ?_
  | fail)))

theorem ok_ask_worth (T : Txt K mg) (Gaverage : FnOk P w K mg base CX0 4 T.average.f T.average.fd ["chance", "worth", "yes", "no"] (spD P w K pr_average)) (Gchance_in : FnOk P w K mg base CX0 1 T.chance_in.f T.chance_in.fd ["web", "tie"] (spD P w K pr_chance_in)) (Gstand_behind : FnOk P w K mg base CX0 2 T.stand_behind.f T.stand_behind.fd ["web", "stand", "tie", "truth"] (spD P w K pr_stand_behind)) (Gworth_in : FnOk P w K mg base CX0 1 T.worth_in.f T.worth_in.fd ["web", "tie"] (spD P w K pr_worth_in)) : FnOk P w K mg base CX0 5 T.ask_worth.f T.ask_worth.fd ["web", "worths", "stand", "tie"] (spD P w K pr_ask_worth) := by
  refine fnD T.ask_worth.F sc_ask_worth len_ask_worth (fun cdv Ar outer s H E hr => ⟨_, (pss_cons (ps_set (i := 4) sc_ask_worth.nd rfl (by first | exact Or.inl rfl | exact Or.inr rfl) (pe_ix (show IxR _ (rNGet P w K) from ix_nget hr.units) (pv 1) (pe_call Gstand_behind (hr.mono (by decide)) rfl T.stand_behind.g T.stand_behind.F.kp T.stand_behind.b .nil pass0 (pa_cons (pv 0) (pa_cons (pv 2) (pa_cons (pv 3) (pa_cons pe_bl pa_nil))))) (fun _ _ => rfl)))
    (pss_cons (ps_set (i := 5) sc_ask_worth.nd rfl (by first | exact Or.inl rfl | exact Or.inr rfl) (pe_ix (show IxR _ (rNGet P w K) from ix_nget hr.units) (pv 1) (pe_call Gstand_behind (hr.mono (by decide)) rfl T.stand_behind.g T.stand_behind.F.kp T.stand_behind.b .nil pass0 (pa_cons (pv 0) (pa_cons (pv 2) (pa_cons (pv 3) (pa_cons pe_bl pa_nil))))) (fun _ _ => rfl)))
    (pss_one (ps_ret (pe_call Gaverage (hr.mono (by decide)) rfl T.average.g T.average.F.kp T.average.b .nil pass0 (pa_cons (pe_call Gchance_in (hr.mono (by decide)) rfl T.chance_in.g T.chance_in.F.kp T.chance_in.b .nil pass0 (pa_cons (pv 0) (pa_cons (pv 3) pa_nil))) (pa_cons (pe_call Gworth_in (hr.mono (by decide)) rfl T.worth_in.g T.worth_in.F.kp T.worth_in.b .nil pass0 (pa_cons (pv 0) (pa_cons (pv 3) pa_nil))) (pa_cons (pv 4) (pa_cons (pv 5) pa_nil))))))))), fun as m W h => ?_⟩)
  try dsimp only [cxOf, Cx.nox, Cx.wish]
  obtain ⟨W', s', t, d, kvs, c, rfl, rfl, hW, hs, ht, hlook, k⟩ := h
  walk_at "dl"
  apply wr_nget (n := 0)
  · exact rfl
  · exact kd_S _
  · exact hlook true
  walk_at "dl"
  apply wr_nget (n := 0)
  · exact rfl
  · exact kd_S _
  · exact hlook false
  walk_at "dl"
  · exact (hW.ch t).1
  · exact (hW.ch t).2
  · exact Km.vS_fine hW _
  · exact Km.vS_fine hW _
  · exact ⟨_, k, List.nil_sublist _⟩
def pr__law_wide_worth : Prom := pr_wide_ask_worth
theorem use__law_wide_worth {U : Arg → List Ob → Prop} {W : Web} {G : Groups} {s : Wide} {t : Nat} {d : Addr} {kvs : List (NestedKey × D)} {c : Bool} (hW : WebOk W) (hs : Km.WP W G s) (hG : GrOk W G) (ht : t < W.n) (hl : ∀ b ∈ Km.truths G s.2.2 t, lookN kvs (key (dV (Km.wbehind W G s t b))) = some (dF (Km.vW W G (Km.wbehind W G s t b)))) (k : U (.d (dF (Km.askW W G (Km.vW W G) s t))) []) :
    pr__law_wide_worth [.d (dW W), .d (dG G), .a d, .d (dV s), .d (dN t)] [(d, .dct kvs, c)] U := ⟨W, G, s, t, d, kvs, c, rfl, rfl, hW, hs, hG, ht, hl, k⟩
theorem len__law_wide_worth (as m W) (h : pr__law_wide_worth as m W) : as.length = 5 := len_wide_ask_worth as m W h
theorem cmul_w {n : Nat} (h : n ≤ 1000) (j : Int) : CMul (n : Int) j := .inl ⟨by omega, by omega⟩
/-- what is put for one truth -/
def valW (W : Web) (G : Groups) (s : Wide) (t : Nat) (b : Bool) : Km.Frc := Km.plus (((W.tie t).w : Int) * (if b = true then 1 else 0), 1) (Km.vW W G (Km.wbehind W G s t b))
theorem valW_t (W : Web) (G : Groups) (s : Wide) (t : Nat) : valW W G s t true = Km.plus (((W.tie t).w : Int), 1) (Km.vW W G (Km.wbehind W G s t true)) := by
  unfold valW
  rw [if_pos rfl, Int.mul_one]
theorem valW_f {W : Web} (hW : WebOk W) (G : Groups) (s : Wide) (t : Nat) : valW W G s t false = Km.vW W G (Km.wbehind W G s t false) := by
  unfold valW
  rw [if_neg (by decide), Int.mul_zero]
  exact Km.plus_zero (Km.vW_fine hW _).red
theorem take_snoc {α β : Type} {l : List α} {i : Nat} {a : α} (f : α → β) (h : l[i]? = some a) : (l.take (i + 1)).map f = (l.take i).map f ++ [f a] := by
  rw [List.take_add_one, h, List.map_append]
  rfl
theorem take_len {α β : Type} {l : List α} {i : Nat} (f : α → β) : ((l.take i).map f).length ≤ l.length := by
  rw [List.length_map, List.length_take]
  exact Nat.min_le_right ..
set_option hygiene false in
local macro_rules | `(tactic| walk_at "dl") => `(tactic| (repeat' (first
  | with_reducible refine wx_op ?_ | with_reducible refine wx_int ?_ | with_reducible refine wx_bl ?_ | with_reducible refine wx_non ?_ | with_reducible refine wa_cons ?_ | with_reducible refine wa_nil ?_
  | ((with_reducible apply wx_var); focus exact rfl)
  | with_reducible refine wx_tup ?_ | with_reducible refine wx_cb ?_ | with_reducible refine wx_neg ?_ | with_reducible refine wx_lst0 ?_
  | with_reducible refine ws_ret ?_ | with_reducible refine ws_seq ?_ | with_reducible refine ws_asg ?_ | with_reducible refine ws_drop ?_ | with_reducible refine ws_next ?_ | with_reducible refine ws_if ?_ | with_reducible refine ws_par ?_
  | with_reducible refine wt_test ?_ | with_reducible refine wt_b ?_ | with_reducible refine wt_not ?_ | with_reducible refine wt_and ?_ | with_reducible refine wt_or ?_
  | with_reducible refine wg_name ?_ | with_reducible refine wg_tup2 ?_ | with_reducible refine wg_tup3 ?_
  | with_reducible refine wr_i0 ?_ | with_reducible refine wr_b0 ?_ | with_reducible refine wr_eqI ?_ | with_reducible refine wr_neI ?_ | with_reducible refine wr_i ?_ ?_
  | ((with_reducible apply wr_ixT); focus exact rfl)
  | with_reducible refine wc_abs ?_ | with_reducible refine wc_lenM ?_ | with_reducible refine wc_lenT ?_ | with_reducible refine wc_max2 ?_ | with_reducible refine wc_min2 ?_ | with_reducible refine wc_intB ?_
  | with_reducible refine ⟨_, rfl, ?_⟩ | with_reducible refine ⟨_, _, rfl, ?_⟩
  | with_reducible refine ⟨[_], map1, len1, ?_⟩ | with_reducible refine ⟨[_, _], map2, len2, ?_⟩ | with_reducible refine ⟨[_, _, _], map3, len3, ?_⟩ | with_reducible refine ⟨[_, _, _, _], map4, len4, ?_⟩ | with_reducible refine ⟨[], map0, len0, ?_⟩
  | with_reducible refine wx_lcT ?_ | with_reducible refine wx_lcT2 ?_ | with_reducible refine wx_lcL ?_ | with_reducible refine wx_lcR ?_ | with_reducible refine wx_lcE ?_ | with_reducible refine wx_cut2 ?_ | with_reducible refine wx_cut_2 ?_ | with_reducible refine wt_yes ?_
  | with_reducible refine ws_forT ?_ | with_reducible refine ws_forL ?_ | with_reducible refine ws_forV ?_ | with_reducible refine ws_forR ?_ | with_reducible refine ws_forE ?_ | with_reducible refine ws_forZ ?_
  | with_reducible refine wr_inN ?_ | with_reducible refine wr_inN2 ?_ | ((with_reducible apply wr_ixT); focus exact tie_at (by assumption)) | ((with_reducible apply wr_ixT); focus exact pat_at (by assumption))
  | with_reducible refine wc_tupZ ?_ | with_reducible refine wc_lenZ ?_ | with_reducible refine wc_allZ ?_ | with_reducible refine wc_sumZ ?_ | with_reducible refine wc_sortTN ?_ | with_reducible refine wc_sortLK ?_
  | ((with_reducible refine wr_catN ?_ ?_); focus (first | omega | skip)) | ((with_reducible refine wr_catN1 ?_ ?_); focus (first | omega | skip)) | ((with_reducible refine wr_catN2 ?_ ?_); focus (first | omega | skip))
  | with_reducible refine ⟨_, _, _, rfl, ?_⟩ | with_reducible refine ⟨_, _, _, _, rfl, ?_⟩
  | with_reducible refine wr_catT (xs := [_, _]) (ys := [_]) cat21 ?_ | with_reducible refine wr_catT (xs := [_, _]) (ys := [_, _]) cat22 ?_
  | with_reducible refine ⟨rfl, ?_⟩
  | assumption
  | with_reducible refine wx_call0 (A := pr__law_wide_truths) ?_ | with_reducible refine use__law_wide_truths ?_ ?_ ?_ ?_
  | with_reducible refine wx_callP (A := pr__law_wide_behind) ?_ | with_reducible refine use__law_wide_behind ?_ ?_ ?_ ?_ ?_
  | with_reducible refine use__law_plus1 ?_ ?_ ?_
  | with_reducible refine wx_callP (A := pr__law_plus) ?_ | with_reducible refine use__law_plus ?_ ?_ ?_
  | with_reducible refine wx_callP (A := pr__law_times) ?_ | with_reducible refine use__law_times ?_ ?_ ?_
  | with_reducible refine wx_callP (A := pr__law_rest) ?_ | with_reducible refine use__law_rest ?_
  | fail)))

theorem ok__law_wide_worth (T : Txt K mg) (G_law_plus : FnOk P w K mg base CX0 3 T._law_plus.f T._law_plus.fd ["_law_one", "_law_other"] (spD P w K pr__law_plus)) (G_law_rest : FnOk P w K mg base CX0 1 T._law_rest.f T._law_rest.fd ["_law_one"] (spD P w K pr__law_rest)) (G_law_times : FnOk P w K mg base CX0 3 T._law_times.f T._law_times.fd ["_law_one", "_law_other"] (spD P w K pr__law_times)) (G_law_wide_behind : FnOk P w K mg base CX0 2 T._law_wide_behind.f T._law_wide_behind.fd ["_law_web_here", "_law_groups", "_law_wide", "_law_tie", "_law_truth"] (spD P w K pr__law_wide_behind)) (G_law_wide_truths : FnOk P w K mg base CX0 2 T._law_wide_truths.f T._law_wide_truths.fd ["_law_groups", "_law_wide", "_law_tie"] (spD P w K pr__law_wide_truths)) : FnOk P w K mg base CX0 4 T._law_wide_worth.f T._law_wide_worth.fd ["_law_web_here", "_law_groups", "_law_worths", "_law_wide", "_law_tie"] (spD P w K pr__law_wide_worth) := by
  refine fnD T._law_wide_worth.F sc__law_wide_worth len__law_wide_worth (fun cdv Ar outer s H E hr => ⟨_, (pss_cons (ps_set (i := 5) sc__law_wide_worth.nd rfl (by first | exact Or.inl rfl | exact Or.inr rfl) (pe_lst pa_nil))
    (pss_cons (ps_for PassesOwn.never rfl (show PI _ _ _ (iList K _) from pi_list (pe_call G_law_wide_truths (hr.mono (by decide)) rfl T._law_wide_truths.g T._law_wide_truths.F.kp T._law_wide_truths.b .nil pass0 (pa_cons (pv 1) (pa_cons (pv 3) (pa_cons (pv 4) pa_nil))))) (pg_name (i := 6) sc__law_wide_worth.nd rfl (by first | exact Or.inl rfl | exact Or.inr rfl))
    (pss_cons (ps_set (i := 7) sc__law_wide_worth.nd rfl (by first | exact Or.inl rfl | exact Or.inr rfl) (pe_call G_law_wide_behind (hr.mono (by decide)) rfl T._law_wide_behind.g T._law_wide_behind.F.kp T._law_wide_behind.b .nil pass0 (pa_cons (pv 0) (pa_cons (pv 1) (pa_cons (pv 3) (pa_cons (pv 4) (pa_cons (pv 6) pa_nil)))))))
     (pss_cons (ps_if (pt_cmpR (show OpR _ _ (rNIn P w K true) from op_nnotin hr.units) (pv 7) (pv 2) (by rfl)) (pss_one (ps_ret pe_non)) pss_nil)
     (pss_one (ps_expr (show PE _ _ (tBM K "list" rAppend _ _) from pe_bm PySem.F.plainAttrs_list PySem.F.slot_list_append PySem.F.type_list_append mt_append (pv 5) (pa_cons (pe_call G_law_plus (hr.mono (by decide)) rfl T._law_plus.g T._law_plus.F.kp T._law_plus.b .nil pass0 (pa_cons (pe_tup (pa_cons (pe_op op_mul (pe_ix (show IxR _ (rIxT K) from ix_tup) (pe_ix (show IxR _ (rIxT K) from ix_tup) (pe_ix (show IxR _ (rIxT K) from ix_tup) (pv 0) pe_int (fun _ _ => rfl)) (pv 4) (fun _ _ => rfl)) pe_int (fun _ _ => rfl)) (pe_callTy (show CallR _ _ rInt1 from call_int1) (by rfl) T.int PyProof.Rows.boot_int (pa_cons (pv 6) pa_nil))) (pa_cons pe_int pa_nil))) (pa_cons (pe_ix (show IxR _ (rNGet P w K) from ix_nget hr.units) (pv 2) (pv 7) (fun _ _ => rfl)) pa_nil))) pa_nil)))))))
    (pss_cons (ps_if (pt_cmpR op_eq (pe_callB (show CallR _ _ (rLen K) from call_len_seq) (by rfl) T.len PySem.boot_len (pa_cons (pv 5) pa_nil)) pe_int (nomark _)) (pss_one (ps_ret (pe_ix (show IxR _ (rIxL K) from ix_list) (pv 5) pe_int (fun _ _ => rfl)))) pss_nil)
    (pss_cons (ps_set (i := 8) sc__law_wide_worth.nd rfl (by first | exact Or.inl rfl | exact Or.inr rfl) (pe_ix (show IxR _ (rIxT K) from ix_tup) (pe_ix (show IxR _ (rIxT K) from ix_tup) (pe_ix (show IxR _ (rIxT K) from ix_tup) (pv 0) pe_int (fun _ _ => rfl)) (pv 4) (fun _ _ => rfl)) pe_int (fun _ _ => rfl)))
    (pss_one (ps_ret (pe_call G_law_plus (hr.mono (by decide)) rfl T._law_plus.g T._law_plus.F.kp T._law_plus.b .nil pass0 (pa_cons (pe_call G_law_times (hr.mono (by decide)) rfl T._law_times.g T._law_times.F.kp T._law_times.b .nil pass0 (pa_cons (pv 8) (pa_cons (pe_ix (show IxR _ (rIxL K) from ix_list) (pv 5) pe_int (fun _ _ => rfl)) pa_nil))) (pa_cons (pe_call G_law_times (hr.mono (by decide)) rfl T._law_times.g T._law_times.F.kp T._law_times.b .nil pass0 (pa_cons (pe_call G_law_rest (hr.mono (by decide)) rfl T._law_rest.g T._law_rest.F.kp T._law_rest.b .nil pass0 (pa_cons (pv 8) pa_nil)) (pa_cons (pe_ix (show IxR _ (rIxL K) from ix_list) (pv 5) pe_int (fun _ _ => rfl)) pa_nil))) pa_nil))))))))), fun as m W h => ?_⟩)
  try dsimp only [cxOf, Cx.nox, Cx.wish]
  obtain ⟨W', G, s', t, d, kvs, c, rfl, rfl, hW, hs, hG, ht, hlook, k⟩ := h
  have h5 := web5 hW
  have hl := hG.few
  have hg := hG.has t ht
  have hk : s'.2.2.length ≤ 1000 := by have := hs.klen; omega
  have htl := Km.told_one hs t
  have htr : (Km.truths G s'.2.2 t).length ≤ 2 := Km.truths_take hs t
  walk_at "dl"
  intro v
  walk_at "dl"
  intro p
  refine ⟨Bool, true, Km.truths G s'.2.2 t, fun b => .d (.bl b), p, 2, true, rfl, rfl, fun i S' => ∃ o1 o2, S' = ⟨[some (.d (dW W')), some (.d (dG G)), some (.a d), some (.d (dV s')), some (.d (dN t)), some (.a v), o1, o2, none], [(d, .dct kvs, c), (v, .lst (((Km.truths G s'.2.2 t).take i).map fun b => .d (dF (valW W' G s' t b))), true), (p, .lst ((Km.truths G s'.2.2 t).map fun b => .d (.bl b)), true)]⟩, ⟨none, none, rfl⟩, ?_, ?_, ?_⟩
  · rintro i S' ⟨o1, o2, rfl⟩
    rfl
  · rintro i b S' hb ⟨o1, o2, rfl⟩
    have hmem : b ∈ Km.truths G s'.2.2 t := List.mem_of_getElem? hb
    walk_at "dl"
    apply wr_nin (n := 0)
    · exact rfl
    · exact kd_V _
    refine ⟨_, rfl, ⟨fun hc => ?_, fun _ => ?_⟩⟩
    · rw [hlook b hmem] at hc
      exact absurd hc (by simp)
    walk_at "dl"
    refine wx_app ?_
    walk_at "dl"
    refine ⟨_, 1, _, _, rfl, rfl, ?_⟩
    walk_at "dl"
    · exact cmul_w (hW.ch t).2 _
    walk_at "dl"
    apply wr_nget (n := 0)
    · exact rfl
    · exact kd_V _
    · exact hlook b hmem
    walk_at "dl"
    · have := (hW.ch t).2
      cases b with
      | true => exact Ok.nat (n := (W'.tie t).w * 1) (by omega)
      | false => exact Ok.nat (n := (W'.tie t).w * 0) (by omega)
    · exact Ok.fine (Km.vW_fine hW _)
    refine ⟨_, _, rfl, rfl, Nat.lt_of_le_of_lt (take_len _) (by omega), ?_⟩
    refine ⟨_, Le.refl _, some (.d (.bl b)), some (.d (dV (Km.wbehind W' G s' t b))), ?_⟩
    rw [take_snoc _ hb]
    rfl
  · rintro S' ⟨o1, o2, rfl⟩
    rw [List.take_length]
    have fin : Ok (Km.vW W' G (Km.wbehind W' G s' t true)) := Ok.fine (Km.vW_fine hW _)
    rcases told_cases htl with htl | htl | htl
    · have htr : Km.truths G s'.2.2 t = [true, false] := by unfold Km.truths; rw [htl]; rfl
      have e : Km.askW W' G (Km.vW W' G) s' t = Km.average (W'.tie t).c (W'.tie t).w (Km.vW W' G (Km.wbehind W' G s' t true)) (Km.vW W' G (Km.wbehind W' G s' t false)) := by unfold Km.askW; rw [htl]
      rw [e] at k
      rw [htr]
      walk_at "dl"
      refine wc_lenL (n := 1) rfl ?_
      walk_at "dl"
      refine ⟨fun hc => absurd hc (by decide : ¬ decide ((2 : Int) = 1) = true), fun _ => ?_⟩
      walk_at "dl"
      refine wr_ixL (n := 1) rfl (atI_nat (j := 0) rfl) ?_
      walk_at "dl"
      · exact Ok.ch (hW.ch t).1
      · rw [valW_t]
        exact av_ok1 (hW.ch t).2 (Km.vW_fine hW _)
      walk_at "dl"
      refine wr_ixL (n := 1) rfl (atI_nat (j := 1) rfl) ?_
      walk_at "dl"
      · exact Ok.rch (hW.ch t).1
      · rw [valW_f hW]
        exact Ok.fine (Km.vW_fine hW _)
      · rw [valW_t]
        exact av_ok2 (hW.ch t).1 (hW.ch t).2 (Km.vW_fine hW _)
      · rw [valW_f hW]
        exact av_ok3 (hW.ch t).1 (Km.vW_fine hW _)
      · rw [valW_t, valW_f hW]
        exact ⟨_, k, List.nil_sublist _⟩
    · have htr : Km.truths G s'.2.2 t = [true] := by unfold Km.truths; rw [htl]; rfl
      have e : Km.askW W' G (Km.vW W' G) s' t = Km.plus (((W'.tie t).w : Int), 1) (Km.vW W' G (Km.wbehind W' G s' t true)) := by unfold Km.askW; rw [htl]
      rw [e, ← valW_t] at k
      rw [htr]
      walk_at "dl"
      refine wc_lenL (n := 1) rfl ?_
      walk_at "dl"
      refine ⟨fun _ => ?_, fun hc => absurd hc (by decide : ¬ decide ((1 : Int) = 1) = false)⟩
      walk_at "dl"
      refine wr_ixL (n := 1) rfl (atI_nat (j := 0) rfl) ?_
      exact ⟨_, k, List.nil_sublist _⟩
    · have htr : Km.truths G s'.2.2 t = [false] := by unfold Km.truths; rw [htl]; rfl
      have e : Km.askW W' G (Km.vW W' G) s' t = Km.vW W' G (Km.wbehind W' G s' t false) := by unfold Km.askW; rw [htl]
      rw [e, ← valW_f hW] at k
      rw [htr]
      walk_at "dl"
      refine wc_lenL (n := 1) rfl ?_
      walk_at "dl"
      refine ⟨fun _ => ?_, fun hc => absurd hc (by decide : ¬ decide ((1 : Int) = 1) = false)⟩
      walk_at "dl"
      refine wr_ixL (n := 1) rfl (atI_nat (j := 0) rfl) ?_
      exact ⟨_, k, List.nil_sublist _⟩
end
end Dl

/-! all stands -/
namespace Dl
open PySem PySem.Spec L2
open Km (Web Stand Wide Known Groups WebOk)
section
variable {S : Type} [DecidableEq S]
theorem addNew_pre : ∀ (l L : List S), L <+: l.foldl Km.addNew L
  | [], L => List.prefix_refl L
  | x :: l, L => by
    rw [List.foldl_cons]
    refine List.IsPrefix.trans ?_ (addNew_pre l _)
    unfold Km.addNew
    split
    · exact List.prefix_refl L
    · exact List.prefix_append ..
theorem addNew_len : ∀ (l L : List S), (l.foldl Km.addNew L).length ≤ L.length + l.length
  | [], L => by simp
  | x :: l, L => by
    rw [List.foldl_cons]
    have := addNew_len l (Km.addNew L x)
    have h2 : (Km.addNew L x).length ≤ L.length + 1 := by
      unfold Km.addNew
      split <;> simp
    rw [List.length_cons]
    omega
theorem addNew_at {l L : List S} {i : Nat} {s : S} (h : L[i]? = some s) : (l.foldl Km.addNew L)[i]? = some s := by
  obtain ⟨t, ht⟩ := addNew_pre l L
  rw [← ht, List.getElem?_append_left (List.getElem?_eq_some_iff.mp h).1]
  exact h
end
abbrev BfsV (W : Web) (G : Groups) (i : Nat) (L : List Wide) : Prop := Km.Bfs (Km.succW2 W G) (fun s => s.1.length) W.n (W.n * 2) (Km.WP W G) ([], [], []) i L
abbrev AllV (W : Web) (G : Groups) (L : List Wide) : Prop := Km.All (Km.succW2 W G) (fun s => s.1.length) (Km.pot (W.n * 2) W.n) (Km.WP W G) ([], [], []) L
abbrev BfsS (W : Web) (i : Nat) (L : List Stand) : Prop := Km.Bfs (Km.succS W) (fun s => s.1.length) W.n (W.n * 2) (Km.SP W) ([], []) i L
abbrev AllS (W : Web) (L : List Stand) : Prop := Km.All (Km.succS W) (fun s => s.1.length) (Km.pot (W.n * 2) W.n) (Km.SP W) ([], []) L
abbrev encV (s : Wide) : Arg := .d (dV s)
abbrev encS (s : Stand) : Arg := .d (dS s)
abbrev tabB {α : Type} (e : α → D) (L : List α) : List (NestedKey × D) := tab e (fun _ => D.bl true) L
/-- the wide stands of one tie -/
def outs (W : Web) (G : Groups) (s : Wide) (t : Nat) : List Wide := ((Km.truths G s.2.2 t).take 2).map (Km.wbehind W G s t)
theorem outs_succ (W : Web) (G : Groups) (s : Wide) : Km.succW2 W G s = (Km.askable W (Km.Wide.st s)).flatMap (outs W G s) := rfl
theorem outs_eq {W : Web} {G : Groups} {s : Wide} (h : Km.WP W G s) (t : Nat) : outs W G s t = (Km.truths G s.2.2 t).map (Km.wbehind W G s t) := by
  unfold outs
  rw [List.take_of_length_le (Km.truths_take h t)]
theorem flat_take {α β : Type} (f : α → List β) {l : List α} {j : Nat} {a : α} (h : l[j]? = some a) : (l.take (j + 1)).flatMap f = (l.take j).flatMap f ++ f a := by
  rw [List.take_add_one, h, List.flatMap_append]
  simp
theorem flat_len {α β : Type} {f : α → List β} {l : List α} {c : Nat} (h : ∀ a ∈ l, (f a).length ≤ c) (j : Nat) : ((l.take j).flatMap f).length ≤ l.length * c := by
  have h1 := Km.flatMap_len (f := f) (c := c) (l.take j) fun a ha => h a (List.mem_of_mem_take ha)
  have h2 : (l.take j).length ≤ l.length := by rw [List.length_take]; exact Nat.min_le_right ..
  exact Nat.le_trans h1 (Nat.mul_le_mul_right _ h2)
section
variable {P : Program} {w : World} {K : PySem.W.Frag} {mg : Str → Option Value} {base : Heap}
def pr_all_wide : Prom := fun as m U => ∃ (W : Web) (G : Groups), as = [.d (dW W), .d (dG G)] ∧ m = [] ∧ WebOk W ∧ GrOk W G ∧ ∀ p L, AllV W G L → U (.a p) [(p, .lst (L.map encV), true)]
theorem use_all_wide {U : Arg → List Ob → Prop} {W : Web} {G : Groups} (hW : WebOk W) (hG : GrOk W G) (k : ∀ p L, AllV W G L → U (.a p) [(p, .lst (L.map encV), true)]) : pr_all_wide [.d (dW W), .d (dG G)] [] U := ⟨W, G, rfl, rfl, hW, hG, k⟩
theorem len_all_wide (as m W) (h : pr_all_wide as m W) : as.length = 2 := by obtain ⟨_, _, rfl, _⟩ := h; rfl
set_option hygiene false in
local macro_rules | `(tactic| walk_at "dl") => `(tactic| (repeat' (first
  | with_reducible refine wx_op ?_ | with_reducible refine wx_int ?_ | with_reducible refine wx_bl ?_ | with_reducible refine wx_non ?_ | with_reducible refine wa_cons ?_ | with_reducible refine wa_nil ?_
  | ((with_reducible apply wx_var); focus exact rfl)
  | with_reducible refine wx_tup ?_ | with_reducible refine wx_cb ?_ | with_reducible refine wx_neg ?_ | with_reducible refine wx_lst0 ?_
  | with_reducible refine ws_ret ?_ | with_reducible refine ws_seq ?_ | with_reducible refine ws_asg ?_ | with_reducible refine ws_drop ?_ | with_reducible refine ws_next ?_ | with_reducible refine ws_if ?_ | with_reducible refine ws_par ?_
  | with_reducible refine wt_test ?_ | with_reducible refine wt_b ?_ | with_reducible refine wt_not ?_ | with_reducible refine wt_and ?_ | with_reducible refine wt_or ?_
  | with_reducible refine wg_name ?_ | with_reducible refine wg_tup2 ?_ | with_reducible refine wg_tup3 ?_
  | with_reducible refine wr_i0 ?_ | with_reducible refine wr_b0 ?_ | with_reducible refine wr_eqI ?_ | with_reducible refine wr_neI ?_ | with_reducible refine wr_i ?_ ?_
  | ((with_reducible apply wr_ixT); focus exact rfl)
  | with_reducible refine wc_abs ?_ | with_reducible refine wc_lenM ?_ | with_reducible refine wc_lenT ?_ | with_reducible refine wc_max2 ?_ | with_reducible refine wc_min2 ?_ | with_reducible refine wc_intB ?_
  | with_reducible refine ⟨_, rfl, ?_⟩ | with_reducible refine ⟨_, _, rfl, ?_⟩
  | with_reducible refine ⟨[_], map1, len1, ?_⟩ | with_reducible refine ⟨[_, _], map2, len2, ?_⟩ | with_reducible refine ⟨[_, _, _], map3, len3, ?_⟩ | with_reducible refine ⟨[_, _, _, _], map4, len4, ?_⟩ | with_reducible refine ⟨[], map0, len0, ?_⟩
  | with_reducible refine wx_lcT ?_ | with_reducible refine wx_lcT2 ?_ | with_reducible refine wx_lcL ?_ | with_reducible refine wx_lcR ?_ | with_reducible refine wx_lcE ?_ | with_reducible refine wx_cut2 ?_ | with_reducible refine wx_cut_2 ?_ | with_reducible refine wt_yes ?_
  | with_reducible refine ws_forT ?_ | with_reducible refine ws_forL ?_ | with_reducible refine ws_forV ?_ | with_reducible refine ws_forR ?_ | with_reducible refine ws_forE ?_ | with_reducible refine ws_forZ ?_
  | with_reducible refine wr_inN ?_ | with_reducible refine wr_inN2 ?_ | ((with_reducible apply wr_ixT); focus exact tie_at (by assumption)) | ((with_reducible apply wr_ixT); focus exact pat_at (by assumption))
  | with_reducible refine wc_tupZ ?_ | with_reducible refine wc_lenZ ?_ | with_reducible refine wc_allZ ?_ | with_reducible refine wc_sumZ ?_ | with_reducible refine wc_sortTN ?_ | with_reducible refine wc_sortLK ?_
  | ((with_reducible refine wr_catN ?_ ?_); focus (first | omega | skip)) | ((with_reducible refine wr_catN1 ?_ ?_); focus (first | omega | skip)) | ((with_reducible refine wr_catN2 ?_ ?_); focus (first | omega | skip))
  | with_reducible refine ⟨_, _, _, rfl, ?_⟩ | with_reducible refine ⟨_, _, _, _, rfl, ?_⟩
  | with_reducible refine wr_catT (xs := [_, _]) (ys := [_]) cat21 ?_ | with_reducible refine wr_catT (xs := [_, _]) (ys := [_, _]) cat22 ?_
  | with_reducible refine ⟨rfl, ?_⟩
  | assumption
  | with_reducible refine use_askableW ?_ ?_ ?_
  | with_reducible refine wx_call0 (A := pr_askable) ?_ | with_reducible refine use_askable ?_ ?_ ?_
  | with_reducible refine wx_call0 (A := pr_truths_of) ?_ | with_reducible refine use_truths_of ?_ ?_ ?_ ?_
  | with_reducible refine wx_callP (A := pr_wide_behind) ?_ | with_reducible refine use_wide_behind ?_ ?_ ?_ ?_ ?_
  | fail)))

theorem ok_all_wide (T : Txt K mg) (Gaskable : FnOk P w K mg base CX0 4 T.askable.f T.askable.fd ["web", "stand"] (spD P w K pr_askable)) (Gtruths_of : FnOk P w K mg base CX0 2 T.truths_of.f T.truths_of.fd ["groups", "wide", "tie"] (spD P w K pr_truths_of)) (Gwide_behind : FnOk P w K mg base CX0 3 T.wide_behind.f T.wide_behind.fd ["web", "groups", "wide", "tie", "truth"] (spD P w K pr_wide_behind)) : FnOk P w K mg base CX0 5 T.all_wide.f T.all_wide.fd ["web", "groups"] (spD P w K pr_all_wide) := by
  refine fnD T.all_wide.F sc_all_wide len_all_wide (fun cdv Ar outer s H E hr => ⟨_, (pss_cons (ps_set (i := 2) sc_all_wide.nd rfl (by first | exact Or.inl rfl | exact Or.inr rfl) (pe_lst (pa_cons (pe_glob (v := .ref T.aFIRST_WIDE) rfl T.FIRST_WIDE rfl) pa_nil)))
    (pss_cons (ps_set (i := 3) sc_all_wide.nd rfl (by first | exact Or.inl rfl | exact Or.inr rfl) (show PE _ _ (tNOne P w K _ _) from pe_none1 hr.units (pe_glob (v := .ref T.aFIRST_WIDE) rfl T.FIRST_WIDE rfl) pe_bl))
    (pss_cons (ps_set (i := 4) sc_all_wide.nd rfl (by first | exact Or.inl rfl | exact Or.inr rfl) pe_int)
    (pss_cons (ps_while PassesOwn.never (pt_cmpR op_lt (pv 4) (pe_callB (show CallR _ _ (rLen K) from call_len_seq) (by rfl) T.len PySem.boot_len (pa_cons (pv 2) pa_nil)) (nomark _))
    (pss_cons (ps_for PassesOwn.never rfl (show PI _ _ _ (iList K _) from pi_list (pe_call Gaskable (hr.mono (by decide)) rfl T.askable.g T.askable.F.kp T.askable.b .nil pass0 (pa_cons (pv 0) (pa_cons (pe_slice (show SlR _ (rSlA K) from sl_tupA) (pe_ix (show IxR _ (rIxL K) from ix_list) (pv 2) (pv 4) (fun _ _ => rfl)) po_none (po_some pe_int)) pa_nil)))) (pg_name (i := 5) sc_all_wide.nd rfl (by first | exact Or.inl rfl | exact Or.inr rfl))
     (pss_one (ps_for PassesOwn.never rfl (show PI _ _ _ (iList K _) from pi_list (pe_call Gtruths_of (hr.mono (by decide)) rfl T.truths_of.g T.truths_of.F.kp T.truths_of.b .nil pass0 (pa_cons (pv 1) (pa_cons (pe_ix (show IxR _ (rIxL K) from ix_list) (pv 2) (pv 4) (fun _ _ => rfl)) (pa_cons (pv 5) pa_nil))))) (pg_name (i := 6) sc_all_wide.nd rfl (by first | exact Or.inl rfl | exact Or.inr rfl))
      (pss_cons (ps_set (i := 7) sc_all_wide.nd rfl (by first | exact Or.inl rfl | exact Or.inr rfl) (pe_call Gwide_behind (hr.mono (by decide)) rfl T.wide_behind.g T.wide_behind.F.kp T.wide_behind.b .nil pass0 (pa_cons (pv 0) (pa_cons (pv 1) (pa_cons (pe_ix (show IxR _ (rIxL K) from ix_list) (pv 2) (pv 4) (fun _ _ => rfl)) (pa_cons (pv 5) (pa_cons (pv 6) pa_nil)))))))
       (pss_one (ps_if (pt_cmpR (show OpR _ _ (rNIn P w K true) from op_nnotin hr.units) (pv 7) (pv 3) (by rfl)) (pss_cons (ps_asg pe_bl (pg_sub (pv 3) (pv 7) (show PSet _ (rNSet P w K) from set_n hr.units)))
        (pss_one (ps_expr (show PE _ _ (tBM K "list" rAppend _ _) from pe_bm PySem.F.plainAttrs_list PySem.F.slot_list_append PySem.F.type_list_append mt_append (pv 2) (pa_cons (pv 7) pa_nil))))) pss_nil))))))
     (pss_one (ps_set (i := 4) sc_all_wide.nd rfl (by first | exact Or.inl rfl | exact Or.inr rfl) (pe_op op_add (pv 4) pe_int)))))
    (pss_one (ps_ret (pv 2))))))), fun as m W h => ?_⟩)
  try dsimp only [cxOf, Cx.nox, Cx.wish]
  obtain ⟨W', G, rfl, rfl, hW, hG, k⟩ := h
  have h5 := web5 hW
  have hl := hG.few
  have hpot := Km.pot_web hW
  walk_at "dl"
  refine wx_lst (wa_cons (wx_glob T.iFIRST_WIDE (wa_nil ⟨len_le rfl, fun f => ?_⟩)))
  walk_at "dl"
  refine wx_none1 fun kn => wx_glob T.iFIRST_WIDE ⟨_, rfl, kd_V ([], [], []), wx_bl ⟨_, 1, rfl, rfl, ?_⟩⟩
  walk_at "dl"
  refine ws_while (fun n S' => ∃ i L o5 o6 o7, n = Km.pot (W'.n * 2) W'.n - i ∧ BfsV W' G i L ∧ S' = ⟨[some (.d (dW W')), some (.d (dG G)), some (.a f), some (.a kn), some (.d (dN i)), o5, o6, o7], [(f, .lst (L.map encV), true), (kn, .dct (tabB dV L), true)]⟩)
    (Km.pot (W'.n * 2) W'.n - 0) ⟨0, [([], [], [])], none, none, none, rfl, Km.Bfs.start (Km.WP.first W' G) rfl, rfl⟩ ?_
  rintro n S' ⟨i, L, o5, o6, o7, rfl, B, rfl⟩
  have hlen := B.len
  walk_at "dl"
  refine wc_lenL (n := 0) rfl ?_
  walk_at "dl"
  refine ⟨fun hc => ?_, fun hc => ?_⟩
  · have hi : i < L.length := by
      have := of_decide_eq_true hc
      rw [List.length_map] at this
      omega
    obtain ⟨s', hs'⟩ : ∃ s', L[i]? = some s' := ⟨L[i], List.getElem?_eq_getElem hi⟩
    have hs : Km.WP W' G s' := B.p s' (List.mem_of_getElem? hs')
    have hk : s'.2.2.length ≤ 1000 := by have := hs.klen; omega
    have hsp := hs.sp
    have hal := Km.askable_len W' (Km.Wide.st s')
    have hfew : ∀ t ∈ Km.askable W' (Km.Wide.st s'), (outs W' G s' t).length ≤ 2 := fun t _ => by
      unfold outs
      rw [List.length_map, List.length_take]
      exact Nat.min_le_left ..
    walk_at "dl"
    refine wr_ixL (n := 0) rfl (atI_nat (j := i) (by rw [List.getElem?_map, hs']; rfl)) ?_
    walk_at "dl"
    intro p1
    refine ⟨Nat, 0, Km.askable W' (Km.Wide.st s'), fun t => .d (dN t), p1, 2, true, rfl, rfl, fun j S' => ∃ o5 o6 o7, S' = ⟨[some (.d (dW W')), some (.d (dG G)), some (.a f), some (.a kn), some (.d (dN i)), o5, o6, o7],
      [(f, .lst ((((Km.askable W' (Km.Wide.st s')).take j).flatMap (outs W' G s')).foldl Km.addNew L |>.map encV), true), (kn, .dct (tabB dV ((((Km.askable W' (Km.Wide.st s')).take j).flatMap (outs W' G s')).foldl Km.addNew L)), true), (p1, .lst ((Km.askable W' (Km.Wide.st s')).map fun t => .d (dN t)), true)]⟩, ⟨_, _, _, rfl⟩, ?_, ?_, ?_⟩
    · rintro j S' ⟨o5, o6, o7, rfl⟩
      rfl
    · rintro j t S' hj ⟨o5, o6, o7, rfl⟩
      have htm : t ∈ Km.askable W' (Km.Wide.st s') := List.mem_of_getElem? hj
      have ht : t < W'.n := (Km.mem_askable.mp htm).1
      have hg := hG.has t ht
      have hll := Nat.le_trans (addNew_len (((Km.askable W' (Km.Wide.st s')).take j).flatMap (outs W' G s')) L) (Nat.add_le_add_left (flat_len hfew j) _)
      have hat := addNew_at (l := ((Km.askable W' (Km.Wide.st s')).take j).flatMap (outs W' G s')) hs'
      generalize hM : (((Km.askable W' (Km.Wide.st s')).take j).flatMap (outs W' G s')).foldl Km.addNew L = M at hll hat ⊢
      walk_at "dl"
      refine wr_ixL (n := 0) rfl (atI_nat (j := i) (by rw [List.getElem?_map, hat]; rfl)) ?_
      walk_at "dl"
      intro p2
      refine ⟨Bool, true, Km.truths G s'.2.2 t, fun b => .d (.bl b), p2, 3, true, rfl, rfl, fun q S' => ∃ o6 o7, S' = ⟨[some (.d (dW W')), some (.d (dG G)), some (.a f), some (.a kn), some (.d (dN i)), some (.d (dN t)), o6, o7],
        [(f, .lst ((((Km.truths G s'.2.2 t).take q).map (Km.wbehind W' G s' t)).foldl Km.addNew M |>.map encV), true), (kn, .dct (tabB dV ((((Km.truths G s'.2.2 t).take q).map (Km.wbehind W' G s' t)).foldl Km.addNew M)), true), (p1, .lst ((Km.askable W' (Km.Wide.st s')).map fun t => .d (dN t)), true), (p2, .lst ((Km.truths G s'.2.2 t).map fun b => .d (.bl b)), true)]⟩, ⟨_, _, rfl⟩, ?_, ?_, ?_⟩
      · rintro q S' ⟨o6, o7, rfl⟩
        rfl
      · rintro q b S' hb ⟨o6, o7, rfl⟩
        have hll2 := Nat.le_trans (addNew_len (((Km.truths G s'.2.2 t).take q).map (Km.wbehind W' G s' t)) M) (Nat.add_le_add_left (Nat.le_trans (take_len _) (Km.truths_take hs t)) _)
        have hat2 := addNew_at (l := ((Km.truths G s'.2.2 t).take q).map (Km.wbehind W' G s' t)) hat
        generalize hX : (((Km.truths G s'.2.2 t).take q).map (Km.wbehind W' G s' t)).foldl Km.addNew M = X at hll2 hat2 ⊢
        have eX : (((Km.truths G s'.2.2 t).take (q + 1)).map (Km.wbehind W' G s' t)).foldl Km.addNew M = Km.addNew X (Km.wbehind W' G s' t b) := by rw [take_snoc _ hb, List.foldl_append, hX]; rfl
        walk_at "dl"
        refine wr_ixL (n := 0) rfl (atI_nat (j := i) (by rw [List.getElem?_map, hat2]; rfl)) ?_
        walk_at "dl"
        apply wr_nin (n := 1)
        · exact rfl
        · exact kd_V _
        have hz : X.length < 1000000 := by omega
        refine ⟨_, rfl, fun hc => ?_, fun hc => ?_⟩
        · have hc' : (!(lookN (tabB dV X) (key (dV (Km.wbehind W' G s' t b)))).isSome) = true := hc
          rw [look_some (fun _ _ => key_V)] at hc'
          have hn : Km.wbehind W' G s' t b ∉ X := by simpa using hc'
          walk_at "dl"
          refine wg_nset ?_
          walk_at "dl"
          refine ⟨kn, 1, _, _, rfl, rfl, rfl, by rw [tab_len]; exact hz, kd_V _, ?_⟩
          walk_at "dl"
          refine wx_app ?_
          walk_at "dl"
          refine ⟨_, 0, _, _, rfl, rfl, ?_⟩
          walk_at "dl"
          refine ⟨_, _, rfl, rfl, by rw [List.length_map]; exact hz, ?_⟩
          refine ⟨_, Le.refl _, some (.d (.bl b)), some (.d (dV (Km.wbehind W' G s' t b))), ?_⟩
          rw [eX, show Km.addNew X (Km.wbehind W' G s' t b) = X ++ [Km.wbehind W' G s' t b] from if_neg hn, List.map_append, show tabB dV (X ++ [Km.wbehind W' G s' t b]) = putN (tabB dV X) (key (dV (Km.wbehind W' G s' t b))) (.bl true) from (put_new (e := dV) (v := fun _ => D.bl true) (fun _ _ => key_V) hn).symm]
          rfl
        · have hc' : (!(lookN (tabB dV X) (key (dV (Km.wbehind W' G s' t b)))).isSome) = false := hc
          rw [look_some (fun _ _ => key_V)] at hc'
          have hn : Km.wbehind W' G s' t b ∈ X := by simpa using hc'
          walk_at "dl"
          refine ⟨_, Le.refl _, some (.d (.bl b)), some (.d (dV (Km.wbehind W' G s' t b))), ?_⟩
          rw [eX, show Km.addNew X (Km.wbehind W' G s' t b) = X from if_pos hn]
          rfl
      · rintro S' ⟨o6, o7, rfl⟩
        refine ⟨⟨[some (.d (dW W')), some (.d (dG G)), some (.a f), some (.a kn), some (.d (dN i)), some (.d (dN t)), o6, o7], _⟩, le_last (m := [_, _, _]), some (.d (dN t)), o6, o7, ?_⟩
        rw [flat_take _ hj, List.foldl_append, hM, outs_eq hs, List.take_length]
    · rintro S' ⟨o5, o6, o7, rfl⟩
      rw [List.take_length, ← outs_succ]
      have B2 := (Km.Bfs.step Km.growW B hs').1
      walk_at "dl"
      refine ⟨Km.pot (W'.n * 2) W'.n - (i + 1), ⟨[some (.d (dW W')), some (.d (dG G)), some (.a f), some (.a kn), some (.d (dN (i + 1))), o5, o6, o7], _⟩, by omega, le_last (m := [_, _]), i + 1, _, o5, o6, o7, rfl, B2, rfl⟩
  · have hi : L.length ≤ i := by
      have := of_decide_eq_false hc
      rw [List.length_map] at this
      omega
    walk_at "dl"
    exact ⟨_, k f L (B.all hi), List.sublist_append_left [_] [_]⟩
end
end Dl

/-! all stands, 2 -/
namespace Dl
open PySem PySem.Spec L2
open Km (Web Stand Wide Known Groups WebOk)
section
variable {P : Program} {w : World} {K : PySem.W.Frag} {mg : Str → Option Value} {base : Heap}
def pr__law_wide_stands : Prom := pr_all_wide
theorem use__law_wide_stands {U : Arg → List Ob → Prop} {W : Web} {G : Groups} (hW : WebOk W) (hG : GrOk W G) (k : ∀ p L, AllV W G L → U (.a p) [(p, .lst (L.map encV), true)]) : pr__law_wide_stands [.d (dW W), .d (dG G)] [] U := ⟨W, G, rfl, rfl, hW, hG, k⟩
theorem len__law_wide_stands (as m W) (h : pr__law_wide_stands as m W) : as.length = 2 := len_all_wide as m W h
set_option hygiene false in
local macro_rules | `(tactic| walk_at "dl") => `(tactic| (repeat' (first
  | with_reducible refine wx_op ?_ | with_reducible refine wx_int ?_ | with_reducible refine wx_bl ?_ | with_reducible refine wx_non ?_ | with_reducible refine wa_cons ?_ | with_reducible refine wa_nil ?_
  | ((with_reducible apply wx_var); focus exact rfl)
  | with_reducible refine wx_tup ?_ | with_reducible refine wx_cb ?_ | with_reducible refine wx_neg ?_ | with_reducible refine wx_lst0 ?_
  | with_reducible refine ws_ret ?_ | with_reducible refine ws_seq ?_ | with_reducible refine ws_asg ?_ | with_reducible refine ws_drop ?_ | with_reducible refine ws_next ?_ | with_reducible refine ws_if ?_ | with_reducible refine ws_par ?_
  | with_reducible refine wt_test ?_ | with_reducible refine wt_b ?_ | with_reducible refine wt_not ?_ | with_reducible refine wt_and ?_ | with_reducible refine wt_or ?_
  | with_reducible refine wg_name ?_ | with_reducible refine wg_tup2 ?_ | with_reducible refine wg_tup3 ?_
  | with_reducible refine wr_i0 ?_ | with_reducible refine wr_b0 ?_ | with_reducible refine wr_eqI ?_ | with_reducible refine wr_neI ?_ | with_reducible refine wr_i ?_ ?_
  | ((with_reducible apply wr_ixT); focus exact rfl)
  | with_reducible refine wc_abs ?_ | with_reducible refine wc_lenM ?_ | with_reducible refine wc_lenT ?_ | with_reducible refine wc_max2 ?_ | with_reducible refine wc_min2 ?_ | with_reducible refine wc_intB ?_
  | with_reducible refine ⟨_, rfl, ?_⟩ | with_reducible refine ⟨_, _, rfl, ?_⟩
  | with_reducible refine ⟨[_], map1, len1, ?_⟩ | with_reducible refine ⟨[_, _], map2, len2, ?_⟩ | with_reducible refine ⟨[_, _, _], map3, len3, ?_⟩ | with_reducible refine ⟨[_, _, _, _], map4, len4, ?_⟩ | with_reducible refine ⟨[], map0, len0, ?_⟩
  | with_reducible refine wx_lcT ?_ | with_reducible refine wx_lcT2 ?_ | with_reducible refine wx_lcL ?_ | with_reducible refine wx_lcR ?_ | with_reducible refine wx_lcE ?_ | with_reducible refine wx_cut2 ?_ | with_reducible refine wx_cut_2 ?_ | with_reducible refine wt_yes ?_
  | with_reducible refine ws_forT ?_ | with_reducible refine ws_forL ?_ | with_reducible refine ws_forV ?_ | with_reducible refine ws_forR ?_ | with_reducible refine ws_forE ?_ | with_reducible refine ws_forZ ?_
  | with_reducible refine wr_inN ?_ | with_reducible refine wr_inN2 ?_ | ((with_reducible apply wr_ixT); focus exact tie_at (by assumption)) | ((with_reducible apply wr_ixT); focus exact pat_at (by assumption))
  | with_reducible refine wc_tupZ ?_ | with_reducible refine wc_lenZ ?_ | with_reducible refine wc_allZ ?_ | with_reducible refine wc_sumZ ?_ | with_reducible refine wc_sortTN ?_ | with_reducible refine wc_sortLK ?_
  | ((with_reducible refine wr_catN ?_ ?_); focus (first | omega | skip)) | ((with_reducible refine wr_catN1 ?_ ?_); focus (first | omega | skip)) | ((with_reducible refine wr_catN2 ?_ ?_); focus (first | omega | skip))
  | with_reducible refine ⟨_, _, _, rfl, ?_⟩ | with_reducible refine ⟨_, _, _, _, rfl, ?_⟩
  | with_reducible refine wr_catT (xs := [_, _]) (ys := [_]) cat21 ?_ | with_reducible refine wr_catT (xs := [_, _]) (ys := [_, _]) cat22 ?_
  | with_reducible refine ⟨rfl, ?_⟩
  | assumption
  | with_reducible refine use__law_askableW ?_ ?_ ?_
  | with_reducible refine wx_call0 (A := pr__law_askable) ?_ | with_reducible refine use__law_askable ?_ ?_ ?_
  | with_reducible refine wx_call0 (A := pr__law_wide_truths) ?_ | with_reducible refine use__law_wide_truths ?_ ?_ ?_ ?_
  | with_reducible refine wx_callP (A := pr__law_wide_behind) ?_ | with_reducible refine use__law_wide_behind ?_ ?_ ?_ ?_ ?_
  | fail)))

theorem ok__law_wide_stands (T : Txt K mg) (G_law_askable : FnOk P w K mg base CX0 3 T._law_askable.f T._law_askable.fd ["_law_web_here", "_law_stand"] (spD P w K pr__law_askable)) (G_law_wide_behind : FnOk P w K mg base CX0 2 T._law_wide_behind.f T._law_wide_behind.fd ["_law_web_here", "_law_groups", "_law_wide", "_law_tie", "_law_truth"] (spD P w K pr__law_wide_behind)) (G_law_wide_truths : FnOk P w K mg base CX0 2 T._law_wide_truths.f T._law_wide_truths.fd ["_law_groups", "_law_wide", "_law_tie"] (spD P w K pr__law_wide_truths)) : FnOk P w K mg base CX0 4 T._law_wide_stands.f T._law_wide_stands.fd ["_law_web_here", "_law_groups"] (spD P w K pr__law_wide_stands) := by
  refine fnD T._law_wide_stands.F sc__law_wide_stands len__law_wide_stands (fun cdv Ar outer s H E hr => ⟨_, (pss_cons (ps_set (i := 2) sc__law_wide_stands.nd rfl (by first | exact Or.inl rfl | exact Or.inr rfl) (pe_lst (pa_cons (pe_tup (pa_cons (pe_tup pa_nil) (pa_cons (pe_tup pa_nil) (pa_cons (pe_tup pa_nil) pa_nil)))) pa_nil)))
    (pss_cons (ps_set (i := 3) sc__law_wide_stands.nd rfl (by first | exact Or.inl rfl | exact Or.inr rfl) pe_int)
    (pss_cons (ps_set (i := 4) sc__law_wide_stands.nd rfl (by first | exact Or.inl rfl | exact Or.inr rfl) (show PE _ _ (tNOne P w K _ _) from pe_none1 hr.units (pe_ix (show IxR _ (rIxL K) from ix_list) (pv 2) pe_int (fun _ _ => rfl)) pe_bl))
    (pss_cons (ps_while PassesOwn.never (pt_cmpR op_lt (pv 3) (pe_callB (show CallR _ _ (rLen K) from call_len_seq) (by rfl) T.len PySem.boot_len (pa_cons (pv 2) pa_nil)) (nomark _))
    (pss_cons (ps_for PassesOwn.never rfl (show PI _ _ _ (iList K _) from pi_list (pe_call G_law_askable (hr.mono (by decide)) rfl T._law_askable.g T._law_askable.F.kp T._law_askable.b .nil pass0 (pa_cons (pv 0) (pa_cons (pe_slice (show SlR _ (rSlA K) from sl_tupA) (pe_ix (show IxR _ (rIxL K) from ix_list) (pv 2) (pv 3) (fun _ _ => rfl)) po_none (po_some pe_int)) pa_nil)))) (pg_name (i := 5) sc__law_wide_stands.nd rfl (by first | exact Or.inl rfl | exact Or.inr rfl))
     (pss_one (ps_for PassesOwn.never rfl (show PI _ _ _ (iList K _) from pi_list (pe_call G_law_wide_truths (hr.mono (by decide)) rfl T._law_wide_truths.g T._law_wide_truths.F.kp T._law_wide_truths.b .nil pass0 (pa_cons (pv 1) (pa_cons (pe_ix (show IxR _ (rIxL K) from ix_list) (pv 2) (pv 3) (fun _ _ => rfl)) (pa_cons (pv 5) pa_nil))))) (pg_name (i := 6) sc__law_wide_stands.nd rfl (by first | exact Or.inl rfl | exact Or.inr rfl))
      (pss_cons (ps_set (i := 7) sc__law_wide_stands.nd rfl (by first | exact Or.inl rfl | exact Or.inr rfl) (pe_call G_law_wide_behind (hr.mono (by decide)) rfl T._law_wide_behind.g T._law_wide_behind.F.kp T._law_wide_behind.b .nil pass0 (pa_cons (pv 0) (pa_cons (pv 1) (pa_cons (pe_ix (show IxR _ (rIxL K) from ix_list) (pv 2) (pv 3) (fun _ _ => rfl)) (pa_cons (pv 5) (pa_cons (pv 6) pa_nil)))))))
       (pss_one (ps_if (pt_cmpR (show OpR _ _ (rNIn P w K true) from op_nnotin hr.units) (pv 7) (pv 4) (by rfl)) (pss_cons (ps_asg pe_bl (pg_sub (pv 4) (pv 7) (show PSet _ (rNSet P w K) from set_n hr.units)))
        (pss_one (ps_expr (show PE _ _ (tBM K "list" rAppend _ _) from pe_bm PySem.F.plainAttrs_list PySem.F.slot_list_append PySem.F.type_list_append mt_append (pv 2) (pa_cons (pv 7) pa_nil))))) pss_nil))))))
     (pss_one (ps_set (i := 3) sc__law_wide_stands.nd rfl (by first | exact Or.inl rfl | exact Or.inr rfl) (pe_op op_add (pv 3) pe_int)))))
    (pss_one (ps_ret (pv 2))))))), fun as m W h => ?_⟩)
  try dsimp only [cxOf, Cx.nox, Cx.wish]
  obtain ⟨W', G, rfl, rfl, hW, hG, k⟩ := h
  have h5 := web5 hW
  have hl := hG.few
  have hpot := Km.pot_web hW
  walk_at "dl"
  refine wx_lst (wa_cons ?_)
  walk_at "dl"
  refine ⟨len_le rfl, fun f => ?_⟩
  walk_at "dl"
  refine wx_none1 fun kn => ?_
  walk_at "dl"
  refine wr_ixL (n := 0) rfl (atI_nat (j := 0) rfl) ?_
  refine ⟨_, rfl, kd_V ([], [], []), ?_⟩
  walk_at "dl"
  refine ⟨_, 1, rfl, rfl, ?_⟩
  walk_at "dl"
  refine ws_while (fun n S' => ∃ i L o5 o6 o7, n = Km.pot (W'.n * 2) W'.n - i ∧ BfsV W' G i L ∧ S' = ⟨[some (.d (dW W')), some (.d (dG G)), some (.a f), some (.d (dN i)), some (.a kn), o5, o6, o7], [(f, .lst (L.map encV), true), (kn, .dct (tabB dV L), true)]⟩)
    (Km.pot (W'.n * 2) W'.n - 0) ⟨0, [([], [], [])], none, none, none, rfl, Km.Bfs.start (Km.WP.first W' G) rfl, rfl⟩ ?_
  rintro n S' ⟨i, L, o5, o6, o7, rfl, B, rfl⟩
  have hlen := B.len
  walk_at "dl"
  refine wc_lenL (n := 0) rfl ?_
  walk_at "dl"
  refine ⟨fun hc => ?_, fun hc => ?_⟩
  · have hi : i < L.length := by
      have := of_decide_eq_true hc
      rw [List.length_map] at this
      omega
    obtain ⟨s', hs'⟩ : ∃ s', L[i]? = some s' := ⟨L[i], List.getElem?_eq_getElem hi⟩
    have hs : Km.WP W' G s' := B.p s' (List.mem_of_getElem? hs')
    have hk : s'.2.2.length ≤ 1000 := by have := hs.klen; omega
    have hsp := hs.sp
    have hal := Km.askable_len W' (Km.Wide.st s')
    have hfew : ∀ t ∈ Km.askable W' (Km.Wide.st s'), (outs W' G s' t).length ≤ 2 := fun t _ => by
      unfold outs
      rw [List.length_map, List.length_take]
      exact Nat.min_le_left ..
    walk_at "dl"
    refine wr_ixL (n := 0) rfl (atI_nat (j := i) (by rw [List.getElem?_map, hs']; rfl)) ?_
    walk_at "dl"
    intro p1
    refine ⟨Nat, 0, Km.askable W' (Km.Wide.st s'), fun t => .d (dN t), p1, 2, true, rfl, rfl, fun j S' => ∃ o5 o6 o7, S' = ⟨[some (.d (dW W')), some (.d (dG G)), some (.a f), some (.d (dN i)), some (.a kn), o5, o6, o7],
      [(f, .lst ((((Km.askable W' (Km.Wide.st s')).take j).flatMap (outs W' G s')).foldl Km.addNew L |>.map encV), true), (kn, .dct (tabB dV ((((Km.askable W' (Km.Wide.st s')).take j).flatMap (outs W' G s')).foldl Km.addNew L)), true), (p1, .lst ((Km.askable W' (Km.Wide.st s')).map fun t => .d (dN t)), true)]⟩, ⟨_, _, _, rfl⟩, ?_, ?_, ?_⟩
    · rintro j S' ⟨o5, o6, o7, rfl⟩
      rfl
    · rintro j t S' hj ⟨o5, o6, o7, rfl⟩
      have htm : t ∈ Km.askable W' (Km.Wide.st s') := List.mem_of_getElem? hj
      have ht : t < W'.n := (Km.mem_askable.mp htm).1
      have hg := hG.has t ht
      have hll := Nat.le_trans (addNew_len (((Km.askable W' (Km.Wide.st s')).take j).flatMap (outs W' G s')) L) (Nat.add_le_add_left (flat_len hfew j) _)
      have hat := addNew_at (l := ((Km.askable W' (Km.Wide.st s')).take j).flatMap (outs W' G s')) hs'
      generalize hM : (((Km.askable W' (Km.Wide.st s')).take j).flatMap (outs W' G s')).foldl Km.addNew L = M at hll hat ⊢
      walk_at "dl"
      refine wr_ixL (n := 0) rfl (atI_nat (j := i) (by rw [List.getElem?_map, hat]; rfl)) ?_
      walk_at "dl"
      intro p2
      refine ⟨Bool, true, Km.truths G s'.2.2 t, fun b => .d (.bl b), p2, 3, true, rfl, rfl, fun q S' => ∃ o6 o7, S' = ⟨[some (.d (dW W')), some (.d (dG G)), some (.a f), some (.d (dN i)), some (.a kn), some (.d (dN t)), o6, o7],
        [(f, .lst ((((Km.truths G s'.2.2 t).take q).map (Km.wbehind W' G s' t)).foldl Km.addNew M |>.map encV), true), (kn, .dct (tabB dV ((((Km.truths G s'.2.2 t).take q).map (Km.wbehind W' G s' t)).foldl Km.addNew M)), true), (p1, .lst ((Km.askable W' (Km.Wide.st s')).map fun t => .d (dN t)), true), (p2, .lst ((Km.truths G s'.2.2 t).map fun b => .d (.bl b)), true)]⟩, ⟨_, _, rfl⟩, ?_, ?_, ?_⟩
      · rintro q S' ⟨o6, o7, rfl⟩
        rfl
      · rintro q b S' hb ⟨o6, o7, rfl⟩
        have hll2 := Nat.le_trans (addNew_len (((Km.truths G s'.2.2 t).take q).map (Km.wbehind W' G s' t)) M) (Nat.add_le_add_left (Nat.le_trans (take_len _) (Km.truths_take hs t)) _)
        have hat2 := addNew_at (l := ((Km.truths G s'.2.2 t).take q).map (Km.wbehind W' G s' t)) hat
        generalize hX : (((Km.truths G s'.2.2 t).take q).map (Km.wbehind W' G s' t)).foldl Km.addNew M = X at hll2 hat2 ⊢
        have eX : (((Km.truths G s'.2.2 t).take (q + 1)).map (Km.wbehind W' G s' t)).foldl Km.addNew M = Km.addNew X (Km.wbehind W' G s' t b) := by rw [take_snoc _ hb, List.foldl_append, hX]; rfl
        walk_at "dl"
        refine wr_ixL (n := 0) rfl (atI_nat (j := i) (by rw [List.getElem?_map, hat2]; rfl)) ?_
        walk_at "dl"
        apply wr_nin (n := 1)
        · exact rfl
        · exact kd_V _
        have hz : X.length < 1000000 := by omega
        refine ⟨_, rfl, fun hc => ?_, fun hc => ?_⟩
        · have hc' : (!(lookN (tabB dV X) (key (dV (Km.wbehind W' G s' t b)))).isSome) = true := hc
          rw [look_some (fun _ _ => key_V)] at hc'
          have hn : Km.wbehind W' G s' t b ∉ X := by simpa using hc'
          walk_at "dl"
          refine wg_nset ?_
          walk_at "dl"
          refine ⟨kn, 1, _, _, rfl, rfl, rfl, by rw [tab_len]; exact hz, kd_V _, ?_⟩
          walk_at "dl"
          refine wx_app ?_
          walk_at "dl"
          refine ⟨_, 0, _, _, rfl, rfl, ?_⟩
          walk_at "dl"
          refine ⟨_, _, rfl, rfl, by rw [List.length_map]; exact hz, ?_⟩
          refine ⟨_, Le.refl _, some (.d (.bl b)), some (.d (dV (Km.wbehind W' G s' t b))), ?_⟩
          rw [eX, show Km.addNew X (Km.wbehind W' G s' t b) = X ++ [Km.wbehind W' G s' t b] from if_neg hn, List.map_append, show tabB dV (X ++ [Km.wbehind W' G s' t b]) = putN (tabB dV X) (key (dV (Km.wbehind W' G s' t b))) (.bl true) from (put_new (e := dV) (v := fun _ => D.bl true) (fun _ _ => key_V) hn).symm]
          rfl
        · have hc' : (!(lookN (tabB dV X) (key (dV (Km.wbehind W' G s' t b)))).isSome) = false := hc
          rw [look_some (fun _ _ => key_V)] at hc'
          have hn : Km.wbehind W' G s' t b ∈ X := by simpa using hc'
          walk_at "dl"
          refine ⟨_, Le.refl _, some (.d (.bl b)), some (.d (dV (Km.wbehind W' G s' t b))), ?_⟩
          rw [eX, show Km.addNew X (Km.wbehind W' G s' t b) = X from if_pos hn]
          rfl
      · rintro S' ⟨o6, o7, rfl⟩
        refine ⟨⟨[some (.d (dW W')), some (.d (dG G)), some (.a f), some (.d (dN i)), some (.a kn), some (.d (dN t)), o6, o7], _⟩, le_last (m := [_, _, _]), some (.d (dN t)), o6, o7, ?_⟩
        rw [flat_take _ hj, List.foldl_append, hM, outs_eq hs, List.take_length]
    · rintro S' ⟨o5, o6, o7, rfl⟩
      rw [List.take_length, ← outs_succ]
      have B2 := (Km.Bfs.step Km.growW B hs').1
      walk_at "dl"
      refine ⟨Km.pot (W'.n * 2) W'.n - (i + 1), ⟨[some (.d (dW W')), some (.d (dG G)), some (.a f), some (.d (dN (i + 1))), some (.a kn), o5, o6, o7], _⟩, by omega, le_last (m := [_, _]), i + 1, _, o5, o6, o7, rfl, B2, rfl⟩
  · have hi : L.length ≤ i := by
      have := of_decide_eq_false hc
      rw [List.length_map] at this
      omega
    walk_at "dl"
    exact ⟨_, k f L (B.all hi), List.sublist_append_left [_] [_]⟩

/-! ### stands -/
def outS (W : Web) (s : Stand) (t : Nat) : List Stand := [Km.behind W s t true, Km.behind W s t false]
theorem outS_succ (W : Web) (s : Stand) : Km.succS W s = (Km.askable W s).flatMap (outS W s) := rfl
def pr_stands_behind : Prom := fun as m U => ∃ (W : Web) (s : Stand), as = [.d (dW W), .d (dS s)] ∧ m = [] ∧ WebOk W ∧ Km.SP W s ∧ ∀ p, U (.a p) [(p, .lst ((Km.succS W s).map encS), true)]
theorem use_stands_behind {U : Arg → List Ob → Prop} {W : Web} {s : Stand} (hW : WebOk W) (hs : Km.SP W s) (k : ∀ p, U (.a p) [(p, .lst ((Km.succS W s).map encS), true)]) : pr_stands_behind [.d (dW W), .d (dS s)] [] U := ⟨W, s, rfl, rfl, hW, hs, k⟩
theorem len_stands_behind (as m W) (h : pr_stands_behind as m W) : as.length = 2 := by obtain ⟨_, _, rfl, _⟩ := h; rfl
set_option hygiene false in
local macro_rules | `(tactic| walk_at "dl") => `(tactic| (repeat' (first
  | with_reducible refine wx_op ?_ | with_reducible refine wx_int ?_ | with_reducible refine wx_bl ?_ | with_reducible refine wx_non ?_ | with_reducible refine wa_cons ?_ | with_reducible refine wa_nil ?_
  | ((with_reducible apply wx_var); focus exact rfl)
  | with_reducible refine wx_tup ?_ | with_reducible refine wx_cb ?_ | with_reducible refine wx_neg ?_ | with_reducible refine wx_lst0 ?_
  | with_reducible refine ws_ret ?_ | with_reducible refine ws_seq ?_ | with_reducible refine ws_asg ?_ | with_reducible refine ws_drop ?_ | with_reducible refine ws_next ?_ | with_reducible refine ws_if ?_ | with_reducible refine ws_par ?_
  | with_reducible refine wt_test ?_ | with_reducible refine wt_b ?_ | with_reducible refine wt_not ?_ | with_reducible refine wt_and ?_ | with_reducible refine wt_or ?_
  | with_reducible refine wg_name ?_ | with_reducible refine wg_tup2 ?_ | with_reducible refine wg_tup3 ?_
  | with_reducible refine wr_i0 ?_ | with_reducible refine wr_b0 ?_ | with_reducible refine wr_eqI ?_ | with_reducible refine wr_neI ?_ | with_reducible refine wr_i ?_ ?_
  | ((with_reducible apply wr_ixT); focus exact rfl)
  | with_reducible refine wc_abs ?_ | with_reducible refine wc_lenM ?_ | with_reducible refine wc_lenT ?_ | with_reducible refine wc_max2 ?_ | with_reducible refine wc_min2 ?_ | with_reducible refine wc_intB ?_
  | with_reducible refine ⟨_, rfl, ?_⟩ | with_reducible refine ⟨_, _, rfl, ?_⟩
  | with_reducible refine ⟨[_], map1, len1, ?_⟩ | with_reducible refine ⟨[_, _], map2, len2, ?_⟩ | with_reducible refine ⟨[_, _, _], map3, len3, ?_⟩ | with_reducible refine ⟨[_, _, _, _], map4, len4, ?_⟩ | with_reducible refine ⟨[], map0, len0, ?_⟩
  | with_reducible refine wx_lcT ?_ | with_reducible refine wx_lcT2 ?_ | with_reducible refine wx_lcL ?_ | with_reducible refine wx_lcR ?_ | with_reducible refine wx_lcE ?_ | with_reducible refine wx_cut2 ?_ | with_reducible refine wx_cut_2 ?_ | with_reducible refine wt_yes ?_
  | with_reducible refine ws_forT ?_ | with_reducible refine ws_forL ?_ | with_reducible refine ws_forV ?_ | with_reducible refine ws_forR ?_ | with_reducible refine ws_forE ?_ | with_reducible refine ws_forZ ?_
  | with_reducible refine wr_inN ?_ | with_reducible refine wr_inN2 ?_ | ((with_reducible apply wr_ixT); focus exact tie_at (by assumption)) | ((with_reducible apply wr_ixT); focus exact pat_at (by assumption))
  | with_reducible refine wc_tupZ ?_ | with_reducible refine wc_lenZ ?_ | with_reducible refine wc_allZ ?_ | with_reducible refine wc_sumZ ?_ | with_reducible refine wc_sortTN ?_ | with_reducible refine wc_sortLK ?_
  | ((with_reducible refine wr_catN ?_ ?_); focus (first | omega | skip)) | ((with_reducible refine wr_catN1 ?_ ?_); focus (first | omega | skip)) | ((with_reducible refine wr_catN2 ?_ ?_); focus (first | omega | skip))
  | with_reducible refine ⟨_, _, _, rfl, ?_⟩ | with_reducible refine ⟨_, _, _, _, rfl, ?_⟩
  | with_reducible refine wr_catT (xs := [_, _]) (ys := [_]) cat21 ?_ | with_reducible refine wr_catT (xs := [_, _]) (ys := [_, _]) cat22 ?_
  | with_reducible refine ⟨rfl, ?_⟩
  | assumption
  | with_reducible refine wx_call0 (A := pr_askable) ?_ | with_reducible refine use_askable ?_ ?_ ?_
  | with_reducible refine wx_callP (A := pr_stand_behind) ?_ | with_reducible refine use_stand_behind ?_ ?_ ?_ ?_
  | fail)))

theorem ok_stands_behind (T : Txt K mg) (Gaskable : FnOk P w K mg base CX0 4 T.askable.f T.askable.fd ["web", "stand"] (spD P w K pr_askable)) (Gstand_behind : FnOk P w K mg base CX0 2 T.stand_behind.f T.stand_behind.fd ["web", "stand", "tie", "truth"] (spD P w K pr_stand_behind)) : FnOk P w K mg base CX0 5 T.stands_behind.f T.stands_behind.fd ["web", "stand"] (spD P w K pr_stands_behind) := by
  refine fnD T.stands_behind.F sc_stands_behind len_stands_behind (fun cdv Ar outer s H E hr => ⟨_, (pss_cons (ps_set (i := 2) sc_stands_behind.nd rfl (by first | exact Or.inl rfl | exact Or.inr rfl) (pe_lst pa_nil))
    (pss_cons (ps_for PassesOwn.never rfl (show PI _ _ _ (iList K _) from pi_list (pe_call Gaskable (hr.mono (by decide)) rfl T.askable.g T.askable.F.kp T.askable.b .nil pass0 (pa_cons (pv 0) (pa_cons (pv 1) pa_nil)))) (pg_name (i := 3) sc_stands_behind.nd rfl (by first | exact Or.inl rfl | exact Or.inr rfl))
    (pss_cons (ps_expr (show PE _ _ (tBM K "list" rAppend _ _) from pe_bm PySem.F.plainAttrs_list PySem.F.slot_list_append PySem.F.type_list_append mt_append (pv 2) (pa_cons (pe_call Gstand_behind (hr.mono (by decide)) rfl T.stand_behind.g T.stand_behind.F.kp T.stand_behind.b .nil pass0 (pa_cons (pv 0) (pa_cons (pv 1) (pa_cons (pv 3) (pa_cons pe_bl pa_nil))))) pa_nil)))
     (pss_one (ps_expr (show PE _ _ (tBM K "list" rAppend _ _) from pe_bm PySem.F.plainAttrs_list PySem.F.slot_list_append PySem.F.type_list_append mt_append (pv 2) (pa_cons (pe_call Gstand_behind (hr.mono (by decide)) rfl T.stand_behind.g T.stand_behind.F.kp T.stand_behind.b .nil pass0 (pa_cons (pv 0) (pa_cons (pv 1) (pa_cons (pv 3) (pa_cons pe_bl pa_nil))))) pa_nil))))))
    (pss_one (ps_ret (pv 2))))), fun as m W h => ?_⟩)
  try dsimp only [cxOf, Cx.nox, Cx.wish]
  obtain ⟨W', s', rfl, rfl, hW, hs, k⟩ := h
  have h5 := web5 hW
  have hal := Km.askable_len W' s'
  walk_at "dl"
  intro f
  walk_at "dl"
  intro p1
  refine ⟨Nat, 0, Km.askable W' s', fun t => .d (dN t), p1, 1, true, rfl, rfl, fun j S' => ∃ o3, S' = ⟨[some (.d (dW W')), some (.d (dS s')), some (.a f), o3],
      [(f, .lst ((((Km.askable W' s').take j).flatMap (outS W' s')).map encS), true), (p1, .lst ((Km.askable W' s').map fun t => .d (dN t)), true)]⟩, ⟨_, rfl⟩, ?_, ?_, ?_⟩
  · rintro j S' ⟨o3, rfl⟩
    rfl
  · rintro j t S' hj ⟨o3, rfl⟩
    have htm : t ∈ Km.askable W' s' := List.mem_of_getElem? hj
    have ht : t < W'.n := (Km.mem_askable.mp htm).1
    have hll : ((((Km.askable W' s').take j).flatMap (outS W' s')).map encS).length ≤ 10 := by
      rw [List.length_map]
      have := flat_len (f := outS W' s') (c := 2) (l := Km.askable W' s') (fun t _ => Nat.le_refl 2) j
      omega
    walk_at "dl"
    refine wx_app ?_
    walk_at "dl"
    refine ⟨_, 0, _, _, rfl, rfl, ?_⟩
    walk_at "dl"
    refine ⟨_, _, rfl, rfl, by omega, ?_⟩
    walk_at "dl"
    refine wx_app ?_
    walk_at "dl"
    refine ⟨_, 0, _, _, rfl, rfl, ?_⟩
    walk_at "dl"
    refine ⟨_, _, rfl, rfl, by rw [List.length_append]; show _ + 1 < _; omega, ?_⟩
    refine ⟨_, Le.refl _, some (.d (dN t)), ?_⟩
    rw [flat_take _ hj, List.map_append]
    show _ = (⟨[some (.d (dW W')), some (.d (dS s')), some (.a f), some (.d (dN t))], [(f, .lst ((((Km.askable W' s').take j).flatMap (outS W' s')).map encS ++ ([encS (Km.behind W' s' t true)] ++ [encS (Km.behind W' s' t false)])), true), (p1, .lst ((Km.askable W' s').map fun t => .d (dN t)), true)]⟩ : Sy)
    rw [← List.append_assoc]
    rfl
  · rintro S' ⟨o3, rfl⟩
    rw [List.take_length, ← outS_succ]
    walk_at "dl"
    exact ⟨_, k f, List.sublist_append_left [_] [_]⟩
def pr_all_stands : Prom := fun as m U => ∃ (W : Web), as = [.d (dW W)] ∧ m = [] ∧ WebOk W ∧ ∀ p L, AllS W L → U (.a p) [(p, .lst (L.map encS), true)]
theorem use_all_stands {U : Arg → List Ob → Prop} {W : Web} (hW : WebOk W) (k : ∀ p L, AllS W L → U (.a p) [(p, .lst (L.map encS), true)]) : pr_all_stands [.d (dW W)] [] U := ⟨W, rfl, rfl, hW, k⟩
theorem len_all_stands (as m W) (h : pr_all_stands as m W) : as.length = 1 := by obtain ⟨_, rfl, _⟩ := h; rfl
set_option hygiene false in
local macro_rules | `(tactic| walk_at "dl") => `(tactic| (repeat' (first
  | with_reducible refine wx_op ?_ | with_reducible refine wx_int ?_ | with_reducible refine wx_bl ?_ | with_reducible refine wx_non ?_ | with_reducible refine wa_cons ?_ | with_reducible refine wa_nil ?_
  | ((with_reducible apply wx_var); focus exact rfl)
  | with_reducible refine wx_tup ?_ | with_reducible refine wx_cb ?_ | with_reducible refine wx_neg ?_ | with_reducible refine wx_lst0 ?_
  | with_reducible refine ws_ret ?_ | with_reducible refine ws_seq ?_ | with_reducible refine ws_asg ?_ | with_reducible refine ws_drop ?_ | with_reducible refine ws_next ?_ | with_reducible refine ws_if ?_ | with_reducible refine ws_par ?_
  | with_reducible refine wt_test ?_ | with_reducible refine wt_b ?_ | with_reducible refine wt_not ?_ | with_reducible refine wt_and ?_ | with_reducible refine wt_or ?_
  | with_reducible refine wg_name ?_ | with_reducible refine wg_tup2 ?_ | with_reducible refine wg_tup3 ?_
  | with_reducible refine wr_i0 ?_ | with_reducible refine wr_b0 ?_ | with_reducible refine wr_eqI ?_ | with_reducible refine wr_neI ?_ | with_reducible refine wr_i ?_ ?_
  | ((with_reducible apply wr_ixT); focus exact rfl)
  | with_reducible refine wc_abs ?_ | with_reducible refine wc_lenM ?_ | with_reducible refine wc_lenT ?_ | with_reducible refine wc_max2 ?_ | with_reducible refine wc_min2 ?_ | with_reducible refine wc_intB ?_
  | with_reducible refine ⟨_, rfl, ?_⟩ | with_reducible refine ⟨_, _, rfl, ?_⟩
  | with_reducible refine ⟨[_], map1, len1, ?_⟩ | with_reducible refine ⟨[_, _], map2, len2, ?_⟩ | with_reducible refine ⟨[_, _, _], map3, len3, ?_⟩ | with_reducible refine ⟨[_, _, _, _], map4, len4, ?_⟩ | with_reducible refine ⟨[], map0, len0, ?_⟩
  | with_reducible refine wx_lcT ?_ | with_reducible refine wx_lcT2 ?_ | with_reducible refine wx_lcL ?_ | with_reducible refine wx_lcR ?_ | with_reducible refine wx_lcE ?_ | with_reducible refine wx_cut2 ?_ | with_reducible refine wx_cut_2 ?_ | with_reducible refine wt_yes ?_
  | with_reducible refine ws_forT ?_ | with_reducible refine ws_forL ?_ | with_reducible refine ws_forV ?_ | with_reducible refine ws_forR ?_ | with_reducible refine ws_forE ?_ | with_reducible refine ws_forZ ?_
  | with_reducible refine wr_inN ?_ | with_reducible refine wr_inN2 ?_ | ((with_reducible apply wr_ixT); focus exact tie_at (by assumption)) | ((with_reducible apply wr_ixT); focus exact pat_at (by assumption))
  | with_reducible refine wc_tupZ ?_ | with_reducible refine wc_lenZ ?_ | with_reducible refine wc_allZ ?_ | with_reducible refine wc_sumZ ?_ | with_reducible refine wc_sortTN ?_ | with_reducible refine wc_sortLK ?_
  | ((with_reducible refine wr_catN ?_ ?_); focus (first | omega | skip)) | ((with_reducible refine wr_catN1 ?_ ?_); focus (first | omega | skip)) | ((with_reducible refine wr_catN2 ?_ ?_); focus (first | omega | skip))
  | with_reducible refine ⟨_, _, _, rfl, ?_⟩ | with_reducible refine ⟨_, _, _, _, rfl, ?_⟩
  | with_reducible refine wr_catT (xs := [_, _]) (ys := [_]) cat21 ?_ | with_reducible refine wr_catT (xs := [_, _]) (ys := [_, _]) cat22 ?_
  | with_reducible refine ⟨rfl, ?_⟩
  | assumption
  | with_reducible refine wx_call0 (A := pr_stands_behind) ?_ | with_reducible refine use_stands_behind ?_ ?_ ?_
  | fail)))

theorem ok_all_stands (T : Txt K mg) (Gstands_behind : FnOk P w K mg base CX0 5 T.stands_behind.f T.stands_behind.fd ["web", "stand"] (spD P w K pr_stands_behind)) : FnOk P w K mg base CX0 6 T.all_stands.f T.all_stands.fd ["web"] (spD P w K pr_all_stands) := by
  refine fnD T.all_stands.F sc_all_stands len_all_stands (fun cdv Ar outer s H E hr => ⟨_, (pss_cons (ps_set (i := 1) sc_all_stands.nd rfl (by first | exact Or.inl rfl | exact Or.inr rfl) (pe_lst (pa_cons (pe_glob (v := .ref T.aFIRST) rfl T.FIRST rfl) pa_nil)))
    (pss_cons (ps_set (i := 2) sc_all_stands.nd rfl (by first | exact Or.inl rfl | exact Or.inr rfl) (show PE _ _ (tNOne P w K _ _) from pe_none1 hr.units (pe_glob (v := .ref T.aFIRST) rfl T.FIRST rfl) pe_bl))
    (pss_cons (ps_set (i := 3) sc_all_stands.nd rfl (by first | exact Or.inl rfl | exact Or.inr rfl) pe_int)
    (pss_cons (ps_while PassesOwn.never (pt_cmpR op_lt (pv 3) (pe_callB (show CallR _ _ (rLen K) from call_len_seq) (by rfl) T.len PySem.boot_len (pa_cons (pv 1) pa_nil)) (nomark _))
    (pss_cons (ps_for PassesOwn.never rfl (show PI _ _ _ (iList K _) from pi_list (pe_call Gstands_behind (hr.mono (by decide)) rfl T.stands_behind.g T.stands_behind.F.kp T.stands_behind.b .nil pass0 (pa_cons (pv 0) (pa_cons (pe_ix (show IxR _ (rIxL K) from ix_list) (pv 1) (pv 3) (fun _ _ => rfl)) pa_nil)))) (pg_name (i := 4) sc_all_stands.nd rfl (by first | exact Or.inl rfl | exact Or.inr rfl))
     (pss_one (ps_if (pt_cmpR (show OpR _ _ (rNIn P w K true) from op_nnotin hr.units) (pv 4) (pv 2) (by rfl)) (pss_cons (ps_asg pe_bl (pg_sub (pv 2) (pv 4) (show PSet _ (rNSet P w K) from set_n hr.units)))
       (pss_one (ps_expr (show PE _ _ (tBM K "list" rAppend _ _) from pe_bm PySem.F.plainAttrs_list PySem.F.slot_list_append PySem.F.type_list_append mt_append (pv 1) (pa_cons (pv 4) pa_nil))))) pss_nil)))
     (pss_one (ps_set (i := 3) sc_all_stands.nd rfl (by first | exact Or.inl rfl | exact Or.inr rfl) (pe_op op_add (pv 3) pe_int)))))
    (pss_one (ps_ret (pv 1))))))), fun as m W h => ?_⟩)
  try dsimp only [cxOf, Cx.nox, Cx.wish]
  obtain ⟨W', rfl, rfl, hW, k⟩ := h
  have h5 := web5 hW
  have hpot := Km.pot_web hW
  walk_at "dl"
  refine wx_lst (wa_cons (wx_glob T.iFIRST (wa_nil ⟨len_le rfl, fun f => ?_⟩)))
  walk_at "dl"
  refine wx_none1 fun kn => wx_glob T.iFIRST ⟨_, rfl, kd_S ([], []), wx_bl ⟨_, 1, rfl, rfl, ?_⟩⟩
  walk_at "dl"
  refine ws_while (fun n S' => ∃ i L o4, n = Km.pot (W'.n * 2) W'.n - i ∧ BfsS W' i L ∧ S' = ⟨[some (.d (dW W')), some (.a f), some (.a kn), some (.d (dN i)), o4], [(f, .lst (L.map encS), true), (kn, .dct (tabB dS L), true)]⟩)
    (Km.pot (W'.n * 2) W'.n - 0) ⟨0, [([], [])], none, rfl, Km.Bfs.start (Km.SP.first W') rfl, rfl⟩ ?_
  rintro n S' ⟨i, L, o4, rfl, B, rfl⟩
  have hlen := B.len
  walk_at "dl"
  refine wc_lenL (n := 0) rfl ?_
  walk_at "dl"
  refine ⟨fun hc => ?_, fun hc => ?_⟩
  · have hi : i < L.length := by
      have := of_decide_eq_true hc
      rw [List.length_map] at this
      omega
    obtain ⟨s', hs'⟩ : ∃ s', L[i]? = some s' := ⟨L[i], List.getElem?_eq_getElem hi⟩
    have hs : Km.SP W' s' := B.p s' (List.mem_of_getElem? hs')
    have hfew : (Km.succS W' s').length ≤ W'.n * 2 := Km.growS.few s'
    walk_at "dl"
    refine wr_ixL (n := 0) rfl (atI_nat (j := i) (by rw [List.getElem?_map, hs']; rfl)) ?_
    walk_at "dl"
    intro p1
    refine ⟨Stand, ([], []), Km.succS W' s', encS, p1, 2, true, rfl, rfl, fun q S' => ∃ o4, S' = ⟨[some (.d (dW W')), some (.a f), some (.a kn), some (.d (dN i)), o4],
      [(f, .lst (((Km.succS W' s').take q).foldl Km.addNew L |>.map encS), true), (kn, .dct (tabB dS (((Km.succS W' s').take q).foldl Km.addNew L)), true), (p1, .lst ((Km.succS W' s').map encS), true)]⟩, ⟨_, rfl⟩, ?_, ?_, ?_⟩
    · rintro q S' ⟨o4, rfl⟩
      rfl
    · rintro q u S' hu ⟨o4, rfl⟩
      have hll := Nat.le_trans (addNew_len ((Km.succS W' s').take q) L) (Nat.add_le_add_left (show ((Km.succS W' s').take q).length ≤ W'.n * 2 by rw [List.length_take]; omega) _)
      generalize hX : ((Km.succS W' s').take q).foldl Km.addNew L = X at hll ⊢
      have eX : ((Km.succS W' s').take (q + 1)).foldl Km.addNew L = Km.addNew X u := by rw [List.take_add_one, hu, List.foldl_append, hX]; rfl
      walk_at "dl"
      apply wr_nin (n := 1)
      · exact rfl
      · exact kd_S _
      have hz : X.length < 1000000 := by omega
      refine ⟨_, rfl, fun hc => ?_, fun hc => ?_⟩
      · have hc' : (!(lookN (tabB dS X) (key (dS u))).isSome) = true := hc
        rw [look_some (fun _ _ => key_S)] at hc'
        have hn : u ∉ X := by simpa using hc'
        walk_at "dl"
        refine wg_nset ?_
        walk_at "dl"
        refine ⟨kn, 1, _, _, rfl, rfl, rfl, by rw [tab_len]; exact hz, kd_S _, ?_⟩
        walk_at "dl"
        refine wx_app ?_
        walk_at "dl"
        refine ⟨_, 0, _, _, rfl, rfl, ?_⟩
        walk_at "dl"
        refine ⟨_, _, rfl, rfl, by rw [List.length_map]; exact hz, ?_⟩
        refine ⟨_, Le.refl _, some (.d (dS u)), ?_⟩
        rw [eX, show Km.addNew X u = X ++ [u] from if_neg hn, List.map_append, show tabB dS (X ++ [u]) = putN (tabB dS X) (key (dS u)) (.bl true) from (put_new (e := dS) (v := fun _ => D.bl true) (fun _ _ => key_S) hn).symm]
        rfl
      · have hc' : (!(lookN (tabB dS X) (key (dS u))).isSome) = false := hc
        rw [look_some (fun _ _ => key_S)] at hc'
        have hn : u ∈ X := by simpa using hc'
        walk_at "dl"
        refine ⟨_, Le.refl _, some (.d (dS u)), ?_⟩
        rw [eX, show Km.addNew X u = X from if_pos hn]
        rfl
    · rintro S' ⟨o4, rfl⟩
      rw [List.take_length]
      have B2 := (Km.Bfs.step Km.growS B hs').1
      walk_at "dl"
      refine ⟨Km.pot (W'.n * 2) W'.n - (i + 1), ⟨[some (.d (dW W')), some (.a f), some (.a kn), some (.d (dN (i + 1))), o4], _⟩, by omega, le_last (m := [_, _]), i + 1, _, o4, rfl, B2, rfl⟩
  · have hi : L.length ≤ i := by
      have := of_decide_eq_false hc
      rw [List.length_map] at this
      omega
    walk_at "dl"
    exact ⟨_, k f L (B.all hi), List.sublist_append_left [_] [_]⟩
end
end Dl

/-! the least of the sorted rows -/
namespace Dl
open PySem PySem.Spec L2
open Km (Web Stand Wide Known Groups WebOk)
theorem le_total (a b : D) : (W.dataLe false py a b || W.dataLe false py b a) = true := by
  show (!W.dataLt (py b) (py a) || !W.dataLt (py a) (py b)) = true
  cases h : W.dataLt (py b) (py a) with
  | false => rfl
  | true =>
    cases h2 : W.dataLt (py a) (py b) with
    | false => rfl
    | true =>
      have h3 : W.dataLt (py a) (py a) = true := PyProof.Rows.lex_trans (O := PyProof.Rows.itemOrd) _ _ _ h2 h
      rw [show W.dataLt (py a) (py a) = false from PyProof.Rows.lex_irrefl (O := PyProof.Rows.itemOrd) _] at h3
      cases h3
theorem le_trans' (a b c : D) (h1 : W.dataLe false py a b = true) (h2 : W.dataLe false py b c = true) : W.dataLe false py a c = true := by
  have h1' : W.dataLt (py b) (py a) = false := by simpa using (show (!W.dataLt (py b) (py a)) = true from h1)
  have h2' : W.dataLt (py c) (py b) = false := by simpa using (show (!W.dataLt (py c) (py b)) = true from h2)
  show (!W.dataLt (py c) (py a)) = true
  cases h : W.dataLt (py c) (py a) with
  | false => rfl
  | true =>
    exfalso
    cases h3 : W.dataLt (py a) (py b) with
    | true =>
      have h4 : W.dataLt (py c) (py b) = true := PyProof.Rows.lex_trans (O := PyProof.Rows.itemOrd) _ _ _ h h3
      rw [h2'] at h4
      cases h4
    | false =>
      have e : W.keyToks (py a) = W.keyToks (py b) := PyProof.Rows.lex_total (O := PyProof.Rows.itemOrd) _ _ h3 h1'
      have h4 : W.dataLt (py c) (py b) = true := by
        unfold W.dataLt
        rw [← e]
        exact h
      rw [h2'] at h4
      cases h4
theorem first_row {rows : List D} {x : D} (hx : x ∈ rows) (hmin : ∀ y ∈ rows, y = x ∨ W.dataLt (py x) (py y) = true) : ∃ rest, rows.mergeSort (W.dataLe false py) = x :: rest := by
  have hp := List.pairwise_mergeSort (le := W.dataLe false py) le_trans' le_total rows
  have hm : ∀ y, y ∈ rows.mergeSort (W.dataLe false py) ↔ y ∈ rows := fun y => List.mem_mergeSort
  cases e : rows.mergeSort (W.dataLe false py) with
  | nil =>
    have := (hm x).mpr hx
    rw [e] at this
    cases this
  | cons h rest =>
    rw [e] at hp
    have hh : h ∈ rows := (hm h).mp (by rw [e]; exact List.mem_cons_self)
    rcases hmin h hh with rfl | hlt
    · exact ⟨rest, rfl⟩
    · have hx' := (hm x).mpr hx
      rw [e] at hx'
      rcases List.mem_cons.mp hx' with q | q
      · exact ⟨rest, by rw [q]⟩
      · have := (List.pairwise_cons.mp hp).1 x q
        have h2 : (!W.dataLt (py x) (py h)) = true := this
        rw [hlt] at h2
        cases h2
theorem tok_N0 : W.keyToks (py (dNs [])) = [.inl 0] := by simp [py, pys, W.keyToks, W.keyToksAll]
theorem tok_N1 (n : Nat) (l : List Nat) : ∃ r, W.keyToks (py (dNs (n :: l))) = .inl 1 :: r := by simp [py, pys, W.keyToks, W.keyToksAll]
theorem tok_K0 : W.keyToks (py (dKn [])) = [.inl 0] := by simp [py, pys, W.keyToks, W.keyToksAll]
theorem tok_K1 (n : Nat × Bool) (l : Known) : ∃ r, W.keyToks (py (dKn (n :: l))) = .inl 1 :: r := by simp [py, pys, W.keyToks, W.keyToksAll]
theorem zero_one (a b : List (Int ⊕ List Nat)) : PyProof.Rows.lexLt PyProof.Rows.itemOrd (.inl 0 :: a) (.inl 1 :: b) = true := by
  rw [W.lex_atom (by intro h; injection h with h; exact absurd h (by decide))]
  decide
theorem min_V (x y : D) (u v : D) (s : Wide) : s = ([], [], []) ∨ W.dataLt (py (.tup [dV ([], [], []), x, y])) (py (.tup [dV s, u, v])) = true := by
  obtain ⟨a, b, k⟩ := s
  have e : ∀ (p q z : D) (r : List D), W.keyToks (py (.tup (.tup [p, q, z] :: r))) = .inl 1 :: .inl 1 :: (W.keyToks (py p) ++ (.inl 1 :: (W.keyToks (py q) ++ (.inl 1 :: (W.keyToks (py z) ++ (.inl 0 :: W.keyToksAll (pys r))))))) := fun p q z r => by
    simp [py, pys, W.keyToks, W.keyToksAll]
  unfold W.dataLt
  rw [e, e, tok_N0, tok_K0]
  cases a with
  | cons n l =>
    obtain ⟨r, hr⟩ := tok_N1 n l
    refine .inr ?_
    rw [hr, PyProof.Rows.lex_self (O := PyProof.Rows.itemOrd), PyProof.Rows.lex_self (O := PyProof.Rows.itemOrd)]
    exact zero_one _ _
  | nil =>
    rw [tok_N0]
    cases b with
    | cons n l =>
      obtain ⟨r, hr⟩ := tok_N1 n l
      refine .inr ?_
      rw [hr, PyProof.Rows.lex_self (O := PyProof.Rows.itemOrd), PyProof.Rows.lex_self (O := PyProof.Rows.itemOrd), W.lex_pre [.inl 0], PyProof.Rows.lex_self (O := PyProof.Rows.itemOrd)]
      exact zero_one _ _
    | nil =>
      rw [tok_N0]
      cases k with
      | cons n l =>
        obtain ⟨r, hr⟩ := tok_K1 n l
        refine .inr ?_
        rw [hr, PyProof.Rows.lex_self (O := PyProof.Rows.itemOrd), PyProof.Rows.lex_self (O := PyProof.Rows.itemOrd), W.lex_pre [.inl 0], PyProof.Rows.lex_self (O := PyProof.Rows.itemOrd), W.lex_pre [.inl 0], PyProof.Rows.lex_self (O := PyProof.Rows.itemOrd)]
        exact zero_one _ _
      | nil => exact .inl rfl
theorem min_S (x y : D) (u v : D) (s : Stand) : s = ([], []) ∨ W.dataLt (py (.tup [dS ([], []), x, y])) (py (.tup [dS s, u, v])) = true := by
  obtain ⟨a, b⟩ := s
  have e : ∀ (p q : D) (r : List D), W.keyToks (py (.tup (.tup [p, q] :: r))) = .inl 1 :: .inl 1 :: (W.keyToks (py p) ++ (.inl 1 :: (W.keyToks (py q) ++ (.inl 0 :: W.keyToksAll (pys r))))) := fun p q r => by
    simp [py, pys, W.keyToks, W.keyToksAll]
  unfold W.dataLt
  rw [e, e, tok_N0]
  cases a with
  | cons n l =>
    obtain ⟨r, hr⟩ := tok_N1 n l
    refine .inr ?_
    rw [hr, PyProof.Rows.lex_self (O := PyProof.Rows.itemOrd), PyProof.Rows.lex_self (O := PyProof.Rows.itemOrd)]
    exact zero_one _ _
  | nil =>
    rw [tok_N0]
    cases b with
    | cons n l =>
      obtain ⟨r, hr⟩ := tok_N1 n l
      refine .inr ?_
      rw [hr, PyProof.Rows.lex_self (O := PyProof.Rows.itemOrd), PyProof.Rows.lex_self (O := PyProof.Rows.itemOrd), W.lex_pre [.inl 0], PyProof.Rows.lex_self (O := PyProof.Rows.itemOrd)]
      exact zero_one _ _
    | nil => exact .inl rfl
/-! ### all alike -/
theorem alike_maps {α : Type} {e : α → D} (h : ∀ a b, W.alike (py (e a)) (py (e b)) = true) : ∀ (l m : List α), W.alikeAll (pys (l.map e)) (pys (m.map e)) = true
  | [], _ => by simp [pys, W.alikeAll]
  | _ :: _, [] => by simp [pys, W.alikeAll]
  | a :: l, b :: m => by
    simp only [List.map_cons, pys, W.alikeAll, Bool.and_eq_true]
    exact ⟨h a b, alike_maps h l m⟩
theorem alike_Ns (l m : List Nat) : W.alike (py (dNs l)) (py (dNs m)) = true := by
  simp only [py, W.alike]
  exact alike_maps (fun a b => by simp [py, W.alike]) l m
theorem alike_Kn (l m : Known) : W.alike (py (dKn l)) (py (dKn m)) = true := by
  simp only [py, W.alike]
  exact alike_maps (fun a b => by simp [py, pys, W.alike, W.alikeAll]) l m
theorem alike_V (s u : Wide) : W.alike (py (dV s)) (py (dV u)) = true := by
  have h1 := alike_Ns s.1 u.1
  have h2 := alike_Ns s.2.1 u.2.1
  have h3 := alike_Kn s.2.2 u.2.2
  simp only [py, pys, W.alike, W.alikeAll, Bool.and_eq_true] at h1 h2 h3 ⊢
  exact ⟨h1, h2, h3, trivial⟩
theorem alike_S (s u : Stand) : W.alike (py (dS s)) (py (dS u)) = true := by
  have h1 := alike_Ns s.1 u.1
  have h2 := alike_Ns s.2 u.2
  simp only [py, pys, W.alike, W.alikeAll, Bool.and_eq_true] at h1 h2 ⊢
  exact ⟨h1, h2, trivial⟩
/-- a row of a table -/
abbrev row {α : Type} (e : α → D) (v : α → Km.Frc) (z : α → Int) (s : α) : D := .tup [e s, dF (v s), .int (z s)]
section
variable {α : Type} {e : α → D} {v : α → Km.Frc} {z : α → Int}
theorem alike_rows (h : ∀ a b, W.alike (py (e a)) (py (e b)) = true) (L : List α) : W.AllAlike ((L.map (row e v z)).map py) := fun d hd d' hd' => by
  rw [List.map_map] at hd hd'
  obtain ⟨a, _, rfl⟩ := List.mem_map.mp hd
  obtain ⟨b, _, rfl⟩ := List.mem_map.mp hd'
  simp only [Function.comp, py, pys, W.alike, W.alikeAll, Bool.and_eq_true]
  exact ⟨h a b, by simp⟩
theorem sortable_rows (L : List α) : W.Sortable ((L.map (row e v z)).map py) := .inl fun d hd => by
  rw [List.map_map] at hd
  obtain ⟨a, _, rfl⟩ := List.mem_map.mp hd
  exact ⟨_, _, rfl⟩
theorem dp_rows (h : ∀ a, (py (e a)).depth ≤ 50) {L : List α} : ∀ d ∈ L.map (row e v z), (py d).depth ≤ 60 := fun d hd => by
  obtain ⟨a, _, rfl⟩ := List.mem_map.mp hd
  have := h a
  simp only [py, pys, PyData.depth, PyData.depthAll]
  omega
end
theorem dp_Ns (l : List Nat) : (py (dNs l)).depth ≤ 1 := by
  have := dp_all (ds := l.map dN) (k := 0) fun d hd => by
    obtain ⟨n, _, rfl⟩ := List.mem_map.mp hd
    simp [py, PyData.depth]
  simp only [py, PyData.depth]
  omega
theorem dp_Kn (l : Known) : (py (dKn l)).depth ≤ 2 := by
  have := dp_all (ds := l.map dP) (k := 1) fun d hd => by
    obtain ⟨n, _, rfl⟩ := List.mem_map.mp hd
    simp [py, pys, PyData.depth, PyData.depthAll]
  simp only [py, PyData.depth]
  omega
theorem dp_V (s : Wide) : (py (dV s)).depth ≤ 50 := by
  have h1 := dp_Ns s.1
  have h2 := dp_Ns s.2.1
  have h3 := dp_Kn s.2.2
  simp only [py, pys, PyData.depth, PyData.depthAll] at h1 h2 h3 ⊢
  omega
theorem dp_S (s : Stand) : (py (dS s)).depth ≤ 50 := by
  have h1 := dp_Ns s.1
  have h2 := dp_Ns s.2
  simp only [py, pys, PyData.depth, PyData.depthAll] at h1 h2 ⊢
  omega
theorem wx_negC {B : Bs} {S : Sy} {F : Arg → Sy → Prop} {i : Int} (k : F (.d (.int (-i))) S) : WX B (tUn (rU fun i => .int (-i)) (tC (.int i))) S F := wx_neg (i := i) (wx_int ⟨rfl, k⟩)
theorem nodup_rev {α : Type} {l : List α} (h : l.Nodup) : l.reverse.Nodup := (List.reverse_perm l).nodup_iff.mpr h
end Dl

/-! tables -/
namespace Dl
open PySem PySem.Spec L2
open Km (Web Stand Wide Known Groups WebOk)
/-- the best and the ask that gives it -/
def bp (f : Nat → Km.Frc) (l : List Nat) : Km.Frc × Int := l.foldl (fun b t => if Km.less b.1 (f t) then (f t, (t : Int)) else b) ((0, 1), -1)
theorem bp_snoc (f : Nat → Km.Frc) (l : List Nat) (t : Nat) : bp f (l ++ [t]) = if Km.less (bp f l).1 (f t) then (f t, (t : Int)) else bp f l := by
  unfold bp
  rw [List.foldl_append]
  rfl
theorem bp_best (f : Nat → Km.Frc) (l : List Nat) : (bp f l).1 = Km.bestOf f l := by
  have key : ∀ (l : List Nat) (b : Km.Frc × Int), (l.foldl (fun b t => if Km.less b.1 (f t) then (f t, (t : Int)) else b) b).1 = l.foldl (fun b t => if Km.less b (f t) then f t else b) b.1 := by
    intro l
    induction l with
    | nil => intro b; rfl
    | cons t l ih =>
      intro b
      rw [List.foldl_cons, List.foldl_cons, ih]
      congr 1
      split <;> rfl
  exact key l ((0, 1), -1)
theorem bp_take {f : Nat → Km.Frc} {l : List Nat} {j t : Nat} (h : l[j]? = some t) : bp f (l.take (j + 1)) = if Km.less (bp f (l.take j)).1 (f t) then (f t, (t : Int)) else bp f (l.take j) := by
  rw [List.take_add_one, h]
  exact bp_snoc f _ t
theorem Ok.askW {W : Web} (hW : WebOk W) (G : Groups) (s : Wide) (t : Nat) : Ok (Km.askW W G (Km.vW W G) s t) :=
  ⟨(Km.askW_fine hW (fun u => Km.vW_fine hW u) s t).pos, (Km.askW_fine hW (fun u => Km.vW_fine hW u) s t).bd.mono (by decide)⟩
theorem Ok.askS {W : Web} (hW : WebOk W) (s : Stand) (t : Nat) : Ok (Km.askS W (Km.vS W) s t) :=
  ⟨(Km.askS_fine hW (fun u => Km.vS_fine hW u) s t).pos, (Km.askS_fine hW (fun u => Km.vS_fine hW u) s t).bd.mono (by decide)⟩
theorem Ok.zero : Ok (0, 1) := Ok.nat (n := 0) (by decide)
theorem Ok.best {f : Nat → Km.Frc} {l : List Nat} (h : ∀ t, Ok (f t)) : Ok (Km.bestOf f l) := Km.bestOf_ind Ok.zero fun t _ => h t
theorem nodup_take {α : Type} {R : List α} (h : R.Nodup) {i : Nat} {s : α} (hs : R[i]? = some s) : s ∉ R.take i := fun hm => by
  obtain ⟨j, hj⟩ := List.mem_iff_getElem?.mp hm
  rw [List.getElem?_take] at hj
  split at hj
  · rename_i hlt
    have hi := (List.getElem?_eq_some_iff.mp hs).1
    have := (List.getElem?_inj (by omega : j < R.length) h).mp (hj.trans hs.symm)
    omega
  · cases hj
theorem mem_outs {W : Web} {G : Groups} {s : Wide} (hs : Km.WP W G s) {t : Nat} (ht : t ∈ Km.askable W (Km.Wide.st s)) {b : Bool} (hb : b ∈ Km.truths G s.2.2 t) : Km.wbehind W G s t b ∈ Km.succW2 W G s := by
  rw [outs_succ, List.mem_flatMap]
  exact ⟨t, ht, by rw [outs_eq hs]; exact List.mem_map.mpr ⟨b, hb, rfl⟩⟩
theorem mem_outS {W : Web} {s : Stand} {t : Nat} (ht : t ∈ Km.askable W s) (b : Bool) : Km.behind W s t b ∈ Km.succS W s := by
  rw [outS_succ, List.mem_flatMap]
  refine ⟨t, ht, ?_⟩
  unfold outS
  cases b <;> simp
/-- where the table is told so far, all that is behind an ask is told -/
theorem tab_look {W : Web} {G : Groups} {L : List Wide} (A : AllV W G L) {i : Nat} {s : Wide} (hs : L.reverse[i]? = some s) {t : Nat} (ht : t ∈ Km.askable W (Km.Wide.st s)) :
    ∀ b ∈ Km.truths G s.2.2 t, lookN (tab dV (fun u => dF (Km.vW W G u)) (L.reverse.take i)) (key (dV (Km.wbehind W G s t b))) = some (dF (Km.vW W G (Km.wbehind W G s t b))) := fun b hb => by
  have hp : Km.WP W G s := A.p s (List.mem_reverse.mp (List.mem_of_getElem? hs))
  exact look_in (e := dV) (v := fun u => dF (Km.vW W G u)) (fun _ _ => key_V) (A.later Km.growW.sz hs (mem_outs hp ht hb))
theorem tab_lookS {W : Web} {L : List Stand} (A : AllS W L) {i : Nat} {s : Stand} (hs : L.reverse[i]? = some s) {t : Nat} (ht : t ∈ Km.askable W s) :
    ∀ b, lookN (tab dS (fun u => dF (Km.vS W u)) (L.reverse.take i)) (key (dS (Km.behind W s t b))) = some (dF (Km.vS W (Km.behind W s t b))) := fun b =>
  look_in (e := dS) (v := fun u => dF (Km.vS W u)) (fun _ _ => key_S) (A.later Km.growS.sz hs (mem_outS ht b))
abbrev zW (W : Web) (G : Groups) (s : Wide) : Int := (bp (Km.askW W G (Km.vW W G) s) (Km.askable W (Km.Wide.st s))).2
abbrev zS (W : Web) (s : Stand) : Int := (bp (Km.askS W (Km.vS W) s) (Km.askable W s)).2
section
variable {P : Program} {w : World} {K : PySem.W.Frag} {mg : Str → Option Value} {base : Heap}
def pr_together_table : Prom := fun as m U => ∃ (W : Web) (G : Groups), as = [.d (dW W), .d (dG G)] ∧ m = [] ∧ WebOk W ∧ GrOk W G ∧ ∀ z rest, U (.d (.tup (.tup [dV ([], [], []), dF (Km.vW W G ([], [], [])), .int z] :: rest))) []
theorem use_together_table {U : Arg → List Ob → Prop} {W : Web} {G : Groups} (hW : WebOk W) (hG : GrOk W G) (k : ∀ z rest, U (.d (.tup (.tup [dV ([], [], []), dF (Km.vW W G ([], [], [])), .int z] :: rest))) []) : pr_together_table [.d (dW W), .d (dG G)] [] U := ⟨W, G, rfl, rfl, hW, hG, k⟩
theorem len_together_table (as m W) (h : pr_together_table as m W) : as.length = 2 := by obtain ⟨_, _, rfl, _⟩ := h; rfl
set_option hygiene false in
local macro_rules | `(tactic| walk_at "dl") => `(tactic| (repeat' (first
  | with_reducible refine wx_op ?_ | with_reducible refine wx_int ?_ | with_reducible refine wx_bl ?_ | with_reducible refine wx_non ?_ | with_reducible refine wa_cons ?_ | with_reducible refine wa_nil ?_
  | ((with_reducible apply wx_var); focus exact rfl)
  | with_reducible refine wx_tup ?_ | with_reducible refine wx_cb ?_ | with_reducible refine wx_negC ?_ | with_reducible refine wx_lst0 ?_
  | with_reducible refine ws_ret ?_ | with_reducible refine ws_seq ?_ | with_reducible refine ws_asg ?_ | with_reducible refine ws_drop ?_ | with_reducible refine ws_next ?_ | with_reducible refine ws_if ?_ | with_reducible refine ws_par ?_
  | with_reducible refine wt_test ?_ | with_reducible refine wt_b ?_ | with_reducible refine wt_not ?_ | with_reducible refine wt_and ?_ | with_reducible refine wt_or ?_
  | with_reducible refine wg_name ?_ | with_reducible refine wg_tup2 ?_ | with_reducible refine wg_tup3 ?_
  | with_reducible refine wr_i0 ?_ | with_reducible refine wr_b0 ?_ | with_reducible refine wr_eqI ?_ | with_reducible refine wr_neI ?_ | with_reducible refine wr_i ?_ ?_
  | ((with_reducible apply wr_ixT); focus exact rfl)
  | with_reducible refine wc_abs ?_ | with_reducible refine wc_lenM ?_ | with_reducible refine wc_lenT ?_ | with_reducible refine wc_max2 ?_ | with_reducible refine wc_min2 ?_ | with_reducible refine wc_intB ?_
  | with_reducible refine ⟨_, rfl, ?_⟩ | with_reducible refine ⟨_, _, rfl, ?_⟩
  | with_reducible refine ⟨[_], map1, len1, ?_⟩ | with_reducible refine ⟨[_, _], map2, len2, ?_⟩ | with_reducible refine ⟨[_, _, _], map3, len3, ?_⟩ | with_reducible refine ⟨[_, _, _, _], map4, len4, ?_⟩ | with_reducible refine ⟨[], map0, len0, ?_⟩
  | with_reducible refine wx_lcT ?_ | with_reducible refine wx_lcT2 ?_ | with_reducible refine wx_lcL ?_ | with_reducible refine wx_lcR ?_ | with_reducible refine wx_lcE ?_ | with_reducible refine wx_cut2 ?_ | with_reducible refine wx_cut_2 ?_ | with_reducible refine wt_yes ?_
  | with_reducible refine ws_forT ?_ | with_reducible refine ws_forL ?_ | with_reducible refine ws_forV ?_ | with_reducible refine ws_forR ?_ | with_reducible refine ws_forE ?_ | with_reducible refine ws_forZ ?_
  | with_reducible refine wr_inN ?_ | with_reducible refine wr_inN2 ?_ | ((with_reducible apply wr_ixT); focus exact tie_at (by assumption)) | ((with_reducible apply wr_ixT); focus exact pat_at (by assumption))
  | with_reducible refine wc_tupZ ?_ | with_reducible refine wc_lenZ ?_ | with_reducible refine wc_allZ ?_ | with_reducible refine wc_sumZ ?_ | with_reducible refine wc_sortTN ?_ | with_reducible refine wc_sortLK ?_
  | ((with_reducible refine wr_catN ?_ ?_); focus (first | omega | skip)) | ((with_reducible refine wr_catN1 ?_ ?_); focus (first | omega | skip)) | ((with_reducible refine wr_catN2 ?_ ?_); focus (first | omega | skip))
  | with_reducible refine ⟨_, _, _, rfl, ?_⟩ | with_reducible refine ⟨_, _, _, _, rfl, ?_⟩
  | with_reducible refine wr_catT (xs := [_, _]) (ys := [_]) cat21 ?_ | with_reducible refine wr_catT (xs := [_, _]) (ys := [_, _]) cat22 ?_
  | with_reducible refine ⟨rfl, ?_⟩
  | assumption
  | with_reducible refine wx_call0 (A := pr_all_wide) ?_ | with_reducible refine use_all_wide ?_ ?_ ?_
  | with_reducible refine use_askableW ?_ ?_ ?_
  | with_reducible refine wx_call0 (A := pr_askable) ?_ | with_reducible refine use_askable ?_ ?_ ?_
  | with_reducible refine wx_callR (A := pr_wide_ask_worth) ?_ | with_reducible refine use_wide_ask_worth ?_ ?_ ?_ ?_ ?_ ?_
  | with_reducible refine wx_callP (A := pr_less) ?_ | with_reducible refine use_less ?_ ?_ ?_
  | fail)))

theorem ok_together_table (T : Txt K mg) (Gall_wide : FnOk P w K mg base CX0 5 T.all_wide.f T.all_wide.fd ["web", "groups"] (spD P w K pr_all_wide)) (Gaskable : FnOk P w K mg base CX0 4 T.askable.f T.askable.fd ["web", "stand"] (spD P w K pr_askable)) (Gless : FnOk P w K mg base CX0 1 T.less.f T.less.fd ["one", "other"] (spD P w K pr_less)) (Gwide_ask_worth : FnOk P w K mg base CX0 5 T.wide_ask_worth.f T.wide_ask_worth.fd ["web", "groups", "worths", "wide", "tie"] (spD P w K pr_wide_ask_worth)) : FnOk P w K mg base CX0 6 T.together_table.f T.together_table.fd ["web", "groups"] (spD P w K pr_together_table) := by
  refine fnD T.together_table.F sc_together_table len_together_table (fun cdv Ar outer s H E hr => ⟨_, (pss_cons (ps_if (pt_cmpR op_gt (pe_callB (show CallR _ _ (rLen K) from call_len_seq) (by rfl) T.len PySem.boot_len (pa_cons (pe_ix (show IxR _ (rIxT K) from ix_tup) (pv 0) pe_int (fun _ _ => rfl)) pa_nil)) (pe_glob (v := .int 6) rfl T.MOST_TIES_together ⟨_, rfl⟩) (nomark _)) (pss_one ps_never) pss_nil)
    (pss_cons (ps_set (i := 2) sc_together_table.nd rfl (by first | exact Or.inl rfl | exact Or.inr rfl) (show PE _ _ (tNNew P w) from pe_nnew))
    (pss_cons (ps_set (i := 3) sc_together_table.nd rfl (by first | exact Or.inl rfl | exact Or.inr rfl) (pe_lst pa_nil))
    (pss_cons (ps_for PassesOwn.never rfl (show PI _ _ _ (iRev K _) from pi_reversed rfl T.reversed (pa_cons (pe_call Gall_wide (hr.mono (by decide)) rfl T.all_wide.g T.all_wide.F.kp T.all_wide.b .nil pass0 (pa_cons (pv 0) (pa_cons (pv 1) pa_nil))) pa_nil)) (pg_name (i := 4) sc_together_table.nd rfl (by first | exact Or.inl rfl | exact Or.inr rfl))
    (pss_cons (ps_set (i := 5) sc_together_table.nd rfl (by first | exact Or.inl rfl | exact Or.inr rfl) (pe_glob (v := .ref T.aNOTHING) rfl T.NOTHING rfl))
     (pss_cons (ps_set (i := 6) sc_together_table.nd rfl (by first | exact Or.inl rfl | exact Or.inr rfl) (pe_un un_neg pe_int))
     (pss_cons (ps_for PassesOwn.never rfl (show PI _ _ _ (iList K _) from pi_list (pe_call Gaskable (hr.mono (by decide)) rfl T.askable.g T.askable.F.kp T.askable.b .nil pass0 (pa_cons (pv 0) (pa_cons (pe_slice (show SlR _ (rSlA K) from sl_tupA) (pv 4) po_none (po_some pe_int)) pa_nil)))) (pg_name (i := 7) sc_together_table.nd rfl (by first | exact Or.inl rfl | exact Or.inr rfl))
     (pss_cons (ps_set (i := 8) sc_together_table.nd rfl (by first | exact Or.inl rfl | exact Or.inr rfl) (pe_call Gwide_ask_worth (hr.mono (by decide)) rfl T.wide_ask_worth.g T.wide_ask_worth.F.kp T.wide_ask_worth.b .nil pass0 (pa_cons (pv 0) (pa_cons (pv 1) (pa_cons (pv 2) (pa_cons (pv 4) (pa_cons (pv 7) pa_nil)))))))
      (pss_one (ps_if (pt_val (pe_call Gless (hr.mono (by decide)) rfl T.less.g T.less.F.kp T.less.b .nil pass0 (pa_cons (pv 5) (pa_cons (pv 8) pa_nil)))) (pss_cons (ps_set (i := 5) sc_together_table.nd rfl (by first | exact Or.inl rfl | exact Or.inr rfl) (pv 8))
       (pss_one (ps_set (i := 6) sc_together_table.nd rfl (by first | exact Or.inl rfl | exact Or.inr rfl) (pv 7)))) pss_nil))))
     (pss_cons (ps_asg (pv 5) (pg_sub (pv 2) (pv 4) (show PSet _ (rNSet P w K) from set_n hr.units)))
     (pss_one (ps_expr (show PE _ _ (tBM K "list" rAppend _ _) from pe_bm PySem.F.plainAttrs_list PySem.F.slot_list_append PySem.F.type_list_append mt_append (pv 3) (pa_cons (pe_tup (pa_cons (pv 4) (pa_cons (pv 5) (pa_cons (pv 6) pa_nil)))) pa_nil)))))))))
    (pss_one (ps_ret (pe_callTy (show CallR _ _ (rTupOf K) from call_tuple_of) (by rfl) T.tuple PyProof.Rows.boot_tuple (pa_cons (pe_callB (show CallR _ _ (rSortD K) from cr_sortD hr.units) (by rfl) T.sorted PyProof.Rows.boot_sorted (pa_cons (pv 3) pa_nil)) pa_nil)))))))), fun as m W h => ?_⟩)
  try dsimp only [cxOf, Cx.nox, Cx.wish]
  obtain ⟨W', G, rfl, rfl, hW, hG, k⟩ := h
  have h5 := web5 hW
  have hpot := Km.pot_web hW
  walk_at "dl"
  refine ⟨fun hc => absurd (of_decide_eq_true hc) (by show ¬ (6 : Int) < (W'.ties.length : Int); have : W'.ties.length ≤ 5 := hW.few; omega), fun _ => ?_⟩
  walk_at "dl"
  refine wx_nnew fun d => ?_
  walk_at "dl"
  intro rw'
  walk_at "dl"
  intro p L A
  have hlen := A.len
  have hnd : L.reverse.Nodup := nodup_rev A.nd
  walk_at "dl"
  refine ⟨Wide, ([], [], []), L, encV, p, 2, true, rfl, rfl, fun i S' => ∃ o4 o5 o6 o7 o8, S' = ⟨[some (.d (dW W')), some (.d (dG G)), some (.a d), some (.a rw'), o4, o5, o6, o7, o8],
      [(d, .dct (tab dV (fun u => dF (Km.vW W' G u)) (L.reverse.take i)), true), (rw', .lst (((L.reverse.take i).map (row dV (Km.vW W' G) (zW W' G))).map Arg.d), true), (p, .lst (L.map encV), true)]⟩, ⟨_, _, _, _, _, rfl⟩, ?_, ?_, ?_⟩
  · rintro i S' ⟨o4, o5, o6, o7, o8, rfl⟩
    rfl
  · rintro i s' S' hs' ⟨o4, o5, o6, o7, o8, rfl⟩
    have hs : Km.WP W' G s' := A.p s' (List.mem_reverse.mp (List.mem_of_getElem? hs'))
    have hsp := hs.sp
    have hn := nodup_take hnd hs'
    have hz : (L.reverse.take i).length < 1000000 := by rw [List.length_take, List.length_reverse]; omega
    walk_at "dl"
    refine wx_glob T.iNOTHING ?_
    walk_at "dl"
    intro p1
    refine ⟨Nat, 0, Km.askable W' (Km.Wide.st s'), fun t => .d (dN t), p1, 3, true, rfl, rfl, fun j S' => ∃ o7 o8, S' = ⟨[some (.d (dW W')), some (.d (dG G)), some (.a d), some (.a rw'), some (.d (dV s')),
        some (.d (dF (bp (Km.askW W' G (Km.vW W' G) s') ((Km.askable W' (Km.Wide.st s')).take j)).1)), some (.d (.int (bp (Km.askW W' G (Km.vW W' G) s') ((Km.askable W' (Km.Wide.st s')).take j)).2)), o7, o8],
      [(d, .dct (tab dV (fun u => dF (Km.vW W' G u)) (L.reverse.take i)), true), (rw', .lst (((L.reverse.take i).map (row dV (Km.vW W' G) (zW W' G))).map Arg.d), true), (p, .lst (L.map encV), true), (p1, .lst ((Km.askable W' (Km.Wide.st s')).map fun t => .d (dN t)), true)]⟩, ⟨_, _, rfl⟩, ?_, ?_, ?_⟩
    · rintro j S' ⟨o7, o8, rfl⟩
      rfl
    · rintro j t S' hj ⟨o7, o8, rfl⟩
      have htm : t ∈ Km.askable W' (Km.Wide.st s') := List.mem_of_getElem? hj
      have ht : t < W'.n := (Km.mem_askable.mp htm).1
      have hok : Ok (bp (Km.askW W' G (Km.vW W' G) s') ((Km.askable W' (Km.Wide.st s')).take j)).1 := by
        rw [bp_best]
        exact Ok.best fun t => Ok.askW hW G s' t
      walk_at "dl"
      refine ⟨0, _, _, _, rfl, use_wide_ask_worth hW hs hG ht (tab_look A hs' htm) ?_⟩
      walk_at "dl"
      · exact Ok.askW hW G s' t
      refine ⟨fun hc => ?_, fun hc => ?_⟩
      · walk_at "dl"
        refine ⟨_, Le.refl _, some (.d (dN t)), some (.d (dF (Km.askW W' G (Km.vW W' G) s' t))), ?_⟩
        rw [bp_take hj, hc]
        rfl
      · walk_at "dl"
        refine ⟨_, Le.refl _, some (.d (dN t)), some (.d (dF (Km.askW W' G (Km.vW W' G) s' t))), ?_⟩
        rw [bp_take hj, hc]
        rfl
    · rintro S' ⟨o7, o8, rfl⟩
      rw [List.take_length, show (bp (Km.askW W' G (Km.vW W' G) s') (Km.askable W' (Km.Wide.st s'))).1 = Km.vW W' G s' by rw [bp_best, Km.vW_eq hs]]
      walk_at "dl"
      refine wg_nset ?_
      walk_at "dl"
      refine ⟨d, 0, _, _, rfl, rfl, rfl, by rw [tab_len]; exact hz, kd_V _, ?_⟩
      walk_at "dl"
      refine wx_app ?_
      walk_at "dl"
      refine ⟨_, 1, _, _, rfl, rfl, ?_⟩
      walk_at "dl"
      refine ⟨_, _, rfl, rfl, by rw [List.length_map, List.length_map]; exact hz, ?_⟩
      refine ⟨⟨[some (.d (dW W')), some (.d (dG G)), some (.a d), some (.a rw'), some (.d (dV s')), some (.d (dF (Km.vW W' G s'))), some (.d (.int (zW W' G s'))), o7, o8], _⟩, le_last (m := [_, _, _]), some (.d (dV s')), some (.d (dF (Km.vW W' G s'))), some (.d (.int (zW W' G s'))), o7, o8, ?_⟩
      rw [List.take_add_one, hs', List.map_append, List.map_append, show tab dV (fun u => dF (Km.vW W' G u)) (L.reverse.take i ++ (some s').toList) = putN (tab dV (fun u => dF (Km.vW W' G u)) (L.reverse.take i)) (key (dV s')) (dF (Km.vW W' G s')) from (put_new (e := dV) (v := fun u => dF (Km.vW W' G u)) (fun _ _ => key_V) hn).symm]
      rfl
  · rintro S' ⟨o4, o5, o6, o7, o8, rfl⟩
    rw [show L.length = L.reverse.length from (List.length_reverse ..).symm, List.take_length]
    walk_at "dl"
    refine wc_sortL (n := 1) rfl (alike_rows alike_V _) (sortable_rows _) (dp_rows dp_V) fun q => ?_
    have hf : ([], [], []) ∈ L := List.mem_of_getElem? A.hd
    obtain ⟨rest, hrest⟩ := first_row (rows := L.reverse.map (row dV (Km.vW W' G) (zW W' G))) (x := row dV (Km.vW W' G) (zW W' G) ([], [], [])) (List.mem_map.mpr ⟨_, List.mem_reverse.mpr hf, rfl⟩) fun y hy => by
      obtain ⟨u, _, rfl⟩ := List.mem_map.mp hy
      rcases min_V (dF (Km.vW W' G ([], [], []))) (.int (zW W' G ([], [], []))) (dF (Km.vW W' G u)) (.int (zW W' G u)) u with rfl | q
      · exact .inl rfl
      · exact .inr q
    rw [hrest]
    walk_at "dl"
    exact ⟨_, k _ _, List.nil_sublist _⟩
end
end Dl

/-! tables, 2 -/
namespace Dl
open PySem PySem.Spec L2
open Km (Web Stand Wide Known Groups WebOk)
section
variable {P : Program} {w : World} {K : PySem.W.Frag} {mg : Str → Option Value} {base : Heap}
def pr_best_ask : Prom := fun as m U => ∃ (W : Web) (s : Stand) (d : Addr) (kvs : List (NestedKey × D)) (c : Bool), as = [.d (dW W), .a d, .d (dS s)] ∧ m = [(d, .dct kvs, c)] ∧ WebOk W ∧ Km.SP W s ∧
  (∀ t ∈ Km.askable W s, ∀ b, lookN kvs (key (dS (Km.behind W s t b))) = some (dF (Km.vS W (Km.behind W s t b)))) ∧ U (.d (.tup [dF (Km.vS W s), .int (zS W s)])) []
theorem use_best_ask {U : Arg → List Ob → Prop} {W : Web} {s : Stand} {d : Addr} {kvs : List (NestedKey × D)} {c : Bool} (hW : WebOk W) (hs : Km.SP W s) (hl : ∀ t ∈ Km.askable W s, ∀ b, lookN kvs (key (dS (Km.behind W s t b))) = some (dF (Km.vS W (Km.behind W s t b)))) (k : U (.d (.tup [dF (Km.vS W s), .int (zS W s)])) []) :
    pr_best_ask [.d (dW W), .a d, .d (dS s)] [(d, .dct kvs, c)] U := ⟨W, s, d, kvs, c, rfl, rfl, hW, hs, hl, k⟩
theorem len_best_ask (as m W) (h : pr_best_ask as m W) : as.length = 3 := by obtain ⟨_, _, _, _, _, rfl, _⟩ := h; rfl
set_option hygiene false in
local macro_rules | `(tactic| walk_at "dl") => `(tactic| (repeat' (first
  | with_reducible refine wx_op ?_ | with_reducible refine wx_int ?_ | with_reducible refine wx_bl ?_ | with_reducible refine wx_non ?_ | with_reducible refine wa_cons ?_ | with_reducible refine wa_nil ?_
  | ((with_reducible apply wx_var); focus exact rfl)
  | with_reducible refine wx_tup ?_ | with_reducible refine wx_cb ?_ | with_reducible refine wx_negC ?_ | with_reducible refine wx_lst0 ?_
  | with_reducible refine ws_ret ?_ | with_reducible refine ws_seq ?_ | with_reducible refine ws_asg ?_ | with_reducible refine ws_drop ?_ | with_reducible refine ws_next ?_ | with_reducible refine ws_if ?_ | with_reducible refine ws_par ?_
  | with_reducible refine wt_test ?_ | with_reducible refine wt_b ?_ | with_reducible refine wt_not ?_ | with_reducible refine wt_and ?_ | with_reducible refine wt_or ?_
  | with_reducible refine wg_name ?_ | with_reducible refine wg_tup2 ?_ | with_reducible refine wg_tup3 ?_
  | with_reducible refine wr_i0 ?_ | with_reducible refine wr_b0 ?_ | with_reducible refine wr_eqI ?_ | with_reducible refine wr_neI ?_ | with_reducible refine wr_i ?_ ?_
  | ((with_reducible apply wr_ixT); focus exact rfl)
  | with_reducible refine wc_abs ?_ | with_reducible refine wc_lenM ?_ | with_reducible refine wc_lenT ?_ | with_reducible refine wc_max2 ?_ | with_reducible refine wc_min2 ?_ | with_reducible refine wc_intB ?_
  | with_reducible refine ⟨_, rfl, ?_⟩ | with_reducible refine ⟨_, _, rfl, ?_⟩
  | with_reducible refine ⟨[_], map1, len1, ?_⟩ | with_reducible refine ⟨[_, _], map2, len2, ?_⟩ | with_reducible refine ⟨[_, _, _], map3, len3, ?_⟩ | with_reducible refine ⟨[_, _, _, _], map4, len4, ?_⟩ | with_reducible refine ⟨[], map0, len0, ?_⟩
  | with_reducible refine wx_lcT ?_ | with_reducible refine wx_lcT2 ?_ | with_reducible refine wx_lcL ?_ | with_reducible refine wx_lcR ?_ | with_reducible refine wx_lcE ?_ | with_reducible refine wx_cut2 ?_ | with_reducible refine wx_cut_2 ?_ | with_reducible refine wt_yes ?_
  | with_reducible refine ws_forT ?_ | with_reducible refine ws_forL ?_ | with_reducible refine ws_forV ?_ | with_reducible refine ws_forR ?_ | with_reducible refine ws_forE ?_ | with_reducible refine ws_forZ ?_
  | with_reducible refine wr_inN ?_ | with_reducible refine wr_inN2 ?_ | ((with_reducible apply wr_ixT); focus exact tie_at (by assumption)) | ((with_reducible apply wr_ixT); focus exact pat_at (by assumption))
  | with_reducible refine wc_tupZ ?_ | with_reducible refine wc_lenZ ?_ | with_reducible refine wc_allZ ?_ | with_reducible refine wc_sumZ ?_ | with_reducible refine wc_sortTN ?_ | with_reducible refine wc_sortLK ?_
  | ((with_reducible refine wr_catN ?_ ?_); focus (first | omega | skip)) | ((with_reducible refine wr_catN1 ?_ ?_); focus (first | omega | skip)) | ((with_reducible refine wr_catN2 ?_ ?_); focus (first | omega | skip))
  | with_reducible refine ⟨_, _, _, rfl, ?_⟩ | with_reducible refine ⟨_, _, _, _, rfl, ?_⟩
  | with_reducible refine wr_catT (xs := [_, _]) (ys := [_]) cat21 ?_ | with_reducible refine wr_catT (xs := [_, _]) (ys := [_, _]) cat22 ?_
  | with_reducible refine ⟨rfl, ?_⟩
  | assumption
  | with_reducible refine wx_call0 (A := pr_askable) ?_ | with_reducible refine use_askable ?_ ?_ ?_
  | with_reducible refine wx_callR (A := pr_ask_worth) ?_ | with_reducible refine use_ask_worth ?_ ?_ ?_ ?_ ?_
  | with_reducible refine wx_callP (A := pr_less) ?_ | with_reducible refine use_less ?_ ?_ ?_
  | fail)))

theorem ok_best_ask (T : Txt K mg) (Gask_worth : FnOk P w K mg base CX0 5 T.ask_worth.f T.ask_worth.fd ["web", "worths", "stand", "tie"] (spD P w K pr_ask_worth)) (Gaskable : FnOk P w K mg base CX0 4 T.askable.f T.askable.fd ["web", "stand"] (spD P w K pr_askable)) (Gless : FnOk P w K mg base CX0 1 T.less.f T.less.fd ["one", "other"] (spD P w K pr_less)) : FnOk P w K mg base CX0 6 T.best_ask.f T.best_ask.fd ["web", "worths", "stand"] (spD P w K pr_best_ask) := by
  refine fnD T.best_ask.F sc_best_ask len_best_ask (fun cdv Ar outer s H E hr => ⟨_, (pss_cons (ps_set (i := 3) sc_best_ask.nd rfl (by first | exact Or.inl rfl | exact Or.inr rfl) (pe_glob (v := .ref T.aNOTHING) rfl T.NOTHING rfl))
    (pss_cons (ps_set (i := 4) sc_best_ask.nd rfl (by first | exact Or.inl rfl | exact Or.inr rfl) (pe_un un_neg pe_int))
    (pss_cons (ps_for PassesOwn.never rfl (show PI _ _ _ (iList K _) from pi_list (pe_call Gaskable (hr.mono (by decide)) rfl T.askable.g T.askable.F.kp T.askable.b .nil pass0 (pa_cons (pv 0) (pa_cons (pv 2) pa_nil)))) (pg_name (i := 5) sc_best_ask.nd rfl (by first | exact Or.inl rfl | exact Or.inr rfl))
    (pss_cons (ps_set (i := 6) sc_best_ask.nd rfl (by first | exact Or.inl rfl | exact Or.inr rfl) (pe_call Gask_worth (hr.mono (by decide)) rfl T.ask_worth.g T.ask_worth.F.kp T.ask_worth.b .nil pass0 (pa_cons (pv 0) (pa_cons (pv 1) (pa_cons (pv 2) (pa_cons (pv 5) pa_nil))))))
     (pss_one (ps_if (pt_val (pe_call Gless (hr.mono (by decide)) rfl T.less.g T.less.F.kp T.less.b .nil pass0 (pa_cons (pv 3) (pa_cons (pv 6) pa_nil)))) (pss_cons (ps_set (i := 3) sc_best_ask.nd rfl (by first | exact Or.inl rfl | exact Or.inr rfl) (pv 6))
      (pss_one (ps_set (i := 4) sc_best_ask.nd rfl (by first | exact Or.inl rfl | exact Or.inr rfl) (pv 5)))) pss_nil))))
    (pss_one (ps_ret (pe_tup (pa_cons (pv 3) (pa_cons (pv 4) pa_nil)))))))), fun as m W h => ?_⟩)
  try dsimp only [cxOf, Cx.nox, Cx.wish]
  obtain ⟨W', s', d, kvs, c, rfl, rfl, hW, hs, hlook, k⟩ := h
  have h5 := web5 hW
  walk_at "dl"
  refine wx_glob T.iNOTHING ?_
  walk_at "dl"
  intro p1
  refine ⟨Nat, 0, Km.askable W' s', fun t => .d (dN t), p1, 1, true, rfl, rfl, fun j S' => ∃ o7 o8, S' = ⟨[some (.d (dW W')), some (.a d), some (.d (dS s')),
      some (.d (dF (bp (Km.askS W' (Km.vS W') s') ((Km.askable W' s').take j)).1)), some (.d (.int (bp (Km.askS W' (Km.vS W') s') ((Km.askable W' s').take j)).2)), o7, o8],
    [(d, .dct kvs, c), (p1, .lst ((Km.askable W' s').map fun t => .d (dN t)), true)]⟩, ⟨_, _, rfl⟩, ?_, ?_, ?_⟩
  · rintro j S' ⟨o7, o8, rfl⟩
    rfl
  · rintro j t S' hj ⟨o7, o8, rfl⟩
    have htm : t ∈ Km.askable W' s' := List.mem_of_getElem? hj
    have ht : t < W'.n := (Km.mem_askable.mp htm).1
    have hok : Ok (bp (Km.askS W' (Km.vS W') s') ((Km.askable W' s').take j)).1 := by
      rw [bp_best]
      exact Ok.best fun t => Ok.askS hW s' t
    walk_at "dl"
    refine ⟨0, _, _, _, rfl, use_ask_worth hW hs ht (hlook t htm) ?_⟩
    walk_at "dl"
    · exact Ok.askS hW s' t
    refine ⟨fun hc => ?_, fun hc => ?_⟩
    · walk_at "dl"
      refine ⟨_, Le.refl _, some (.d (dN t)), some (.d (dF (Km.askS W' (Km.vS W') s' t))), ?_⟩
      rw [bp_take hj, hc]
      rfl
    · walk_at "dl"
      refine ⟨_, Le.refl _, some (.d (dN t)), some (.d (dF (Km.askS W' (Km.vS W') s' t))), ?_⟩
      rw [bp_take hj, hc]
      rfl
  · rintro S' ⟨o7, o8, rfl⟩
    rw [List.take_length, show (bp (Km.askS W' (Km.vS W') s') (Km.askable W' s')).1 = Km.vS W' s' by rw [bp_best, Km.vS_eq hs]]
    walk_at "dl"
    exact ⟨_, k, List.nil_sublist _⟩
def pr_table_of : Prom := fun as m U => ∃ (W : Web), as = [.d (dW W)] ∧ m = [] ∧ WebOk W ∧ ∀ z rest, U (.d (.tup (.tup [dS ([], []), dF (Km.vS W ([], [])), .int z] :: rest))) []
theorem use_table_of {U : Arg → List Ob → Prop} {W : Web} (hW : WebOk W) (k : ∀ z rest, U (.d (.tup (.tup [dS ([], []), dF (Km.vS W ([], [])), .int z] :: rest))) []) : pr_table_of [.d (dW W)] [] U := ⟨W, rfl, rfl, hW, k⟩
theorem len_table_of (as m W) (h : pr_table_of as m W) : as.length = 1 := by obtain ⟨_, rfl, _⟩ := h; rfl
set_option hygiene false in
local macro_rules | `(tactic| walk_at "dl") => `(tactic| (repeat' (first
  | with_reducible refine wx_op ?_ | with_reducible refine wx_int ?_ | with_reducible refine wx_bl ?_ | with_reducible refine wx_non ?_ | with_reducible refine wa_cons ?_ | with_reducible refine wa_nil ?_
  | ((with_reducible apply wx_var); focus exact rfl)
  | with_reducible refine wx_tup ?_ | with_reducible refine wx_cb ?_ | with_reducible refine wx_negC ?_ | with_reducible refine wx_lst0 ?_
  | with_reducible refine ws_ret ?_ | with_reducible refine ws_seq ?_ | with_reducible refine ws_asg ?_ | with_reducible refine ws_drop ?_ | with_reducible refine ws_next ?_ | with_reducible refine ws_if ?_ | with_reducible refine ws_par ?_
  | with_reducible refine wt_test ?_ | with_reducible refine wt_b ?_ | with_reducible refine wt_not ?_ | with_reducible refine wt_and ?_ | with_reducible refine wt_or ?_
  | with_reducible refine wg_name ?_ | with_reducible refine wg_tup2 ?_ | with_reducible refine wg_tup3 ?_
  | with_reducible refine wr_i0 ?_ | with_reducible refine wr_b0 ?_ | with_reducible refine wr_eqI ?_ | with_reducible refine wr_neI ?_ | with_reducible refine wr_i ?_ ?_
  | ((with_reducible apply wr_ixT); focus exact rfl)
  | with_reducible refine wc_abs ?_ | with_reducible refine wc_lenM ?_ | with_reducible refine wc_lenT ?_ | with_reducible refine wc_max2 ?_ | with_reducible refine wc_min2 ?_ | with_reducible refine wc_intB ?_
  | with_reducible refine ⟨_, rfl, ?_⟩ | with_reducible refine ⟨_, _, rfl, ?_⟩
  | with_reducible refine ⟨[_], map1, len1, ?_⟩ | with_reducible refine ⟨[_, _], map2, len2, ?_⟩ | with_reducible refine ⟨[_, _, _], map3, len3, ?_⟩ | with_reducible refine ⟨[_, _, _, _], map4, len4, ?_⟩ | with_reducible refine ⟨[], map0, len0, ?_⟩
  | with_reducible refine wx_lcT ?_ | with_reducible refine wx_lcT2 ?_ | with_reducible refine wx_lcL ?_ | with_reducible refine wx_lcR ?_ | with_reducible refine wx_lcE ?_ | with_reducible refine wx_cut2 ?_ | with_reducible refine wx_cut_2 ?_ | with_reducible refine wt_yes ?_
  | with_reducible refine ws_forT ?_ | with_reducible refine ws_forL ?_ | with_reducible refine ws_forV ?_ | with_reducible refine ws_forR ?_ | with_reducible refine ws_forE ?_ | with_reducible refine ws_forZ ?_
  | with_reducible refine wr_inN ?_ | with_reducible refine wr_inN2 ?_ | ((with_reducible apply wr_ixT); focus exact tie_at (by assumption)) | ((with_reducible apply wr_ixT); focus exact pat_at (by assumption))
  | with_reducible refine wc_tupZ ?_ | with_reducible refine wc_lenZ ?_ | with_reducible refine wc_allZ ?_ | with_reducible refine wc_sumZ ?_ | with_reducible refine wc_sortTN ?_ | with_reducible refine wc_sortLK ?_
  | ((with_reducible refine wr_catN ?_ ?_); focus (first | omega | skip)) | ((with_reducible refine wr_catN1 ?_ ?_); focus (first | omega | skip)) | ((with_reducible refine wr_catN2 ?_ ?_); focus (first | omega | skip))
  | with_reducible refine ⟨_, _, _, rfl, ?_⟩ | with_reducible refine ⟨_, _, _, _, rfl, ?_⟩
  | with_reducible refine wr_catT (xs := [_, _]) (ys := [_]) cat21 ?_ | with_reducible refine wr_catT (xs := [_, _]) (ys := [_, _]) cat22 ?_
  | with_reducible refine ⟨rfl, ?_⟩
  | assumption
  | with_reducible refine wx_call0 (A := pr_all_stands) ?_ | with_reducible refine use_all_stands ?_ ?_
  | with_reducible refine wx_callR (A := pr_best_ask) ?_ | with_reducible refine use_best_ask ?_ ?_ ?_ ?_
  | fail)))

theorem ok_table_of (T : Txt K mg) (Gall_stands : FnOk P w K mg base CX0 6 T.all_stands.f T.all_stands.fd ["web"] (spD P w K pr_all_stands)) (Gbest_ask : FnOk P w K mg base CX0 6 T.best_ask.f T.best_ask.fd ["web", "worths", "stand"] (spD P w K pr_best_ask)) : FnOk P w K mg base CX0 7 T.table_of.f T.table_of.fd ["web"] (spD P w K pr_table_of) := by
  refine fnD T.table_of.F sc_table_of len_table_of (fun cdv Ar outer s H E hr => ⟨_, (pss_cons (ps_if (pt_cmpR op_gt (pe_callB (show CallR _ _ (rLen K) from call_len_seq) (by rfl) T.len PySem.boot_len (pa_cons (pe_ix (show IxR _ (rIxT K) from ix_tup) (pv 0) pe_int (fun _ _ => rfl)) pa_nil)) (pe_glob (v := .int 7) rfl T.MOST_TIES_tables ⟨_, rfl⟩) (nomark _)) (pss_one ps_never) pss_nil)
    (pss_cons (ps_set (i := 1) sc_table_of.nd rfl (by first | exact Or.inl rfl | exact Or.inr rfl) (show PE _ _ (tNNew P w) from pe_nnew))
    (pss_cons (ps_set (i := 2) sc_table_of.nd rfl (by first | exact Or.inl rfl | exact Or.inr rfl) (pe_lst pa_nil))
    (pss_cons (ps_for PassesOwn.never rfl (show PI _ _ _ (iRev K _) from pi_reversed rfl T.reversed (pa_cons (pe_call Gall_stands (hr.mono (by decide)) rfl T.all_stands.g T.all_stands.F.kp T.all_stands.b .nil pass0 (pa_cons (pv 0) pa_nil)) pa_nil)) (pg_name (i := 3) sc_table_of.nd rfl (by first | exact Or.inl rfl | exact Or.inr rfl))
    (pss_cons (ps_asg (pe_call Gbest_ask (hr.mono (by decide)) rfl T.best_ask.g T.best_ask.F.kp T.best_ask.b .nil pass0 (pa_cons (pv 0) (pa_cons (pv 1) (pa_cons (pv 3) pa_nil)))) (show PG _ _ (gTup K 2 _) from pg_tup (n := 2) rfl (pgs_cons (pg_name (i := 4) sc_table_of.nd rfl (by first | exact Or.inl rfl | exact Or.inr rfl)) (pgs_cons (pg_name (i := 5) sc_table_of.nd rfl (by first | exact Or.inl rfl | exact Or.inr rfl)) pgs_nil))))
     (pss_cons (ps_asg (pv 4) (pg_sub (pv 1) (pv 3) (show PSet _ (rNSet P w K) from set_n hr.units)))
     (pss_one (ps_expr (show PE _ _ (tBM K "list" rAppend _ _) from pe_bm PySem.F.plainAttrs_list PySem.F.slot_list_append PySem.F.type_list_append mt_append (pv 2) (pa_cons (pe_tup (pa_cons (pv 3) (pa_cons (pv 4) (pa_cons (pv 5) pa_nil)))) pa_nil)))))))
    (pss_one (ps_ret (pe_callTy (show CallR _ _ (rTupOf K) from call_tuple_of) (by rfl) T.tuple PyProof.Rows.boot_tuple (pa_cons (pe_callB (show CallR _ _ (rSortD K) from cr_sortD hr.units) (by rfl) T.sorted PyProof.Rows.boot_sorted (pa_cons (pv 2) pa_nil)) pa_nil)))))))), fun as m W h => ?_⟩)
  try dsimp only [cxOf, Cx.nox, Cx.wish]
  obtain ⟨W', rfl, rfl, hW, k⟩ := h
  have h5 := web5 hW
  have hpot := Km.pot_web hW
  walk_at "dl"
  refine ⟨fun hc => absurd (of_decide_eq_true hc) (by show ¬ (7 : Int) < (W'.ties.length : Int); have : W'.ties.length ≤ 5 := hW.few; omega), fun _ => ?_⟩
  walk_at "dl"
  refine wx_nnew fun d => ?_
  walk_at "dl"
  intro rw'
  walk_at "dl"
  intro p L A
  have hlen := A.len
  have hnd : L.reverse.Nodup := nodup_rev A.nd
  walk_at "dl"
  refine ⟨Stand, ([], []), L, encS, p, 2, true, rfl, rfl, fun i S' => ∃ o3 o4 o5, S' = ⟨[some (.d (dW W')), some (.a d), some (.a rw'), o3, o4, o5],
      [(d, .dct (tab dS (fun u => dF (Km.vS W' u)) (L.reverse.take i)), true), (rw', .lst (((L.reverse.take i).map (row dS (Km.vS W') (zS W'))).map Arg.d), true), (p, .lst (L.map encS), true)]⟩, ⟨_, _, _, rfl⟩, ?_, ?_, ?_⟩
  · rintro i S' ⟨o3, o4, o5, rfl⟩
    rfl
  · rintro i s' S' hs' ⟨o3, o4, o5, rfl⟩
    have hs : Km.SP W' s' := A.p s' (List.mem_reverse.mp (List.mem_of_getElem? hs'))
    have hn := nodup_take hnd hs'
    have hz : (L.reverse.take i).length < 1000000 := by rw [List.length_take, List.length_reverse]; omega
    walk_at "dl"
    refine ⟨0, _, _, _, rfl, use_best_ask hW hs (fun t ht => tab_lookS A hs' ht) ?_⟩
    walk_at "dl"
    refine wg_nset ?_
    walk_at "dl"
    refine ⟨d, 0, _, _, rfl, rfl, rfl, by rw [tab_len]; exact hz, kd_S _, ?_⟩
    walk_at "dl"
    refine wx_app ?_
    walk_at "dl"
    refine ⟨_, 1, _, _, rfl, rfl, ?_⟩
    walk_at "dl"
    refine ⟨_, _, rfl, rfl, by rw [List.length_map, List.length_map]; exact hz, ?_⟩
    refine ⟨_, Le.refl _, some (.d (dS s')), some (.d (dF (Km.vS W' s'))), some (.d (.int (zS W' s'))), ?_⟩
    rw [List.take_add_one, hs', List.map_append, List.map_append, show tab dS (fun u => dF (Km.vS W' u)) (L.reverse.take i ++ (some s').toList) = putN (tab dS (fun u => dF (Km.vS W' u)) (L.reverse.take i)) (key (dS s')) (dF (Km.vS W' s')) from (put_new (e := dS) (v := fun u => dF (Km.vS W' u)) (fun _ _ => key_S) hn).symm]
    rfl
  · rintro S' ⟨o3, o4, o5, rfl⟩
    rw [show L.length = L.reverse.length from (List.length_reverse ..).symm, List.take_length]
    walk_at "dl"
    refine wc_sortL (n := 1) rfl (alike_rows alike_S _) (sortable_rows _) (dp_rows dp_S) fun q => ?_
    have hf : ([], []) ∈ L := List.mem_of_getElem? A.hd
    obtain ⟨rest, hrest⟩ := first_row (rows := L.reverse.map (row dS (Km.vS W') (zS W'))) (x := row dS (Km.vS W') (zS W') ([], [])) (List.mem_map.mpr ⟨_, List.mem_reverse.mpr hf, rfl⟩) fun y hy => by
      obtain ⟨u, _, rfl⟩ := List.mem_map.mp hy
      rcases min_S (dF (Km.vS W' ([], []))) (.int (zS W' ([], []))) (dF (Km.vS W' u)) (.int (zS W' u)) u with rfl | q
      · exact .inl rfl
      · exact .inr q
    rw [hrest]
    walk_at "dl"
    exact ⟨_, k _ _, List.nil_sublist _⟩
def pr_best_worth : Prom := fun as m U => ∃ (W : Web), as = [.d (dW W)] ∧ m = [] ∧ WebOk W ∧ U (.d (dF (Km.vS W ([], [])))) []
theorem use_best_worth {U : Arg → List Ob → Prop} {W : Web} (hW : WebOk W) (k : U (.d (dF (Km.vS W ([], [])))) []) : pr_best_worth [.d (dW W)] [] U := ⟨W, rfl, rfl, hW, k⟩
theorem len_best_worth (as m W) (h : pr_best_worth as m W) : as.length = 1 := by obtain ⟨_, rfl, _⟩ := h; rfl
set_option hygiene false in
local macro_rules | `(tactic| walk_at "dl") => `(tactic| (repeat' (first
  | with_reducible refine wx_op ?_ | with_reducible refine wx_int ?_ | with_reducible refine wx_bl ?_ | with_reducible refine wx_non ?_ | with_reducible refine wa_cons ?_ | with_reducible refine wa_nil ?_
  | ((with_reducible apply wx_var); focus exact rfl)
  | with_reducible refine wx_tup ?_ | with_reducible refine wx_cb ?_ | with_reducible refine wx_negC ?_ | with_reducible refine wx_lst0 ?_
  | with_reducible refine ws_ret ?_ | with_reducible refine ws_seq ?_ | with_reducible refine ws_asg ?_ | with_reducible refine ws_drop ?_ | with_reducible refine ws_next ?_ | with_reducible refine ws_if ?_ | with_reducible refine ws_par ?_
  | with_reducible refine wt_test ?_ | with_reducible refine wt_b ?_ | with_reducible refine wt_not ?_ | with_reducible refine wt_and ?_ | with_reducible refine wt_or ?_
  | with_reducible refine wg_name ?_ | with_reducible refine wg_tup2 ?_ | with_reducible refine wg_tup3 ?_
  | with_reducible refine wr_i0 ?_ | with_reducible refine wr_b0 ?_ | with_reducible refine wr_eqI ?_ | with_reducible refine wr_neI ?_ | with_reducible refine wr_i ?_ ?_
  | ((with_reducible apply wr_ixT); focus exact rfl)
  | with_reducible refine wc_abs ?_ | with_reducible refine wc_lenM ?_ | with_reducible refine wc_lenT ?_ | with_reducible refine wc_max2 ?_ | with_reducible refine wc_min2 ?_ | with_reducible refine wc_intB ?_
  | with_reducible refine ⟨_, rfl, ?_⟩ | with_reducible refine ⟨_, _, rfl, ?_⟩
  | with_reducible refine ⟨[_], map1, len1, ?_⟩ | with_reducible refine ⟨[_, _], map2, len2, ?_⟩ | with_reducible refine ⟨[_, _, _], map3, len3, ?_⟩ | with_reducible refine ⟨[_, _, _, _], map4, len4, ?_⟩ | with_reducible refine ⟨[], map0, len0, ?_⟩
  | with_reducible refine wx_lcT ?_ | with_reducible refine wx_lcT2 ?_ | with_reducible refine wx_lcL ?_ | with_reducible refine wx_lcR ?_ | with_reducible refine wx_lcE ?_ | with_reducible refine wx_cut2 ?_ | with_reducible refine wx_cut_2 ?_ | with_reducible refine wt_yes ?_
  | with_reducible refine ws_forT ?_ | with_reducible refine ws_forL ?_ | with_reducible refine ws_forV ?_ | with_reducible refine ws_forR ?_ | with_reducible refine ws_forE ?_ | with_reducible refine ws_forZ ?_
  | with_reducible refine wr_inN ?_ | with_reducible refine wr_inN2 ?_ | ((with_reducible apply wr_ixT); focus exact tie_at (by assumption)) | ((with_reducible apply wr_ixT); focus exact pat_at (by assumption))
  | with_reducible refine wc_tupZ ?_ | with_reducible refine wc_lenZ ?_ | with_reducible refine wc_allZ ?_ | with_reducible refine wc_sumZ ?_ | with_reducible refine wc_sortTN ?_ | with_reducible refine wc_sortLK ?_
  | ((with_reducible refine wr_catN ?_ ?_); focus (first | omega | skip)) | ((with_reducible refine wr_catN1 ?_ ?_); focus (first | omega | skip)) | ((with_reducible refine wr_catN2 ?_ ?_); focus (first | omega | skip))
  | with_reducible refine ⟨_, _, _, rfl, ?_⟩ | with_reducible refine ⟨_, _, _, _, rfl, ?_⟩
  | with_reducible refine wr_catT (xs := [_, _]) (ys := [_]) cat21 ?_ | with_reducible refine wr_catT (xs := [_, _]) (ys := [_, _]) cat22 ?_
  | with_reducible refine ⟨rfl, ?_⟩
  | assumption
  | with_reducible refine wx_callP (A := pr_table_of) ?_ | with_reducible refine use_table_of ?_ ?_
  | fail)))

theorem ok_best_worth (T : Txt K mg) (Gtable_of : FnOk P w K mg base CX0 7 T.table_of.f T.table_of.fd ["web"] (spD P w K pr_table_of)) : FnOk P w K mg base CX0 8 T.best_worth.f T.best_worth.fd ["web"] (spD P w K pr_best_worth) := by
  refine fnD T.best_worth.F sc_best_worth len_best_worth (fun cdv Ar outer s H E hr => ⟨_, (pss_one (ps_ret (pe_ix (show IxR _ (rIxT K) from ix_tup) (pe_ix (show IxR _ (rIxT K) from ix_tup) (pe_call Gtable_of (hr.mono (by decide)) rfl T.table_of.g T.table_of.F.kp T.table_of.b .nil pass0 (pa_cons (pv 0) pa_nil)) pe_int (fun _ _ => rfl)) pe_int (fun _ _ => rfl)))), fun as m W h => ?_⟩)
  try dsimp only [cxOf, Cx.nox, Cx.wish]
  obtain ⟨W', rfl, rfl, hW, k⟩ := h
  walk_at "dl"
  intro z rest
  walk_at "dl"
  refine wr_ixT (atI_nat (j := 0) rfl) ?_
  walk_at "dl"
  exact ⟨_, k, List.nil_sublist _⟩
/-! ### the law's own table -/
def pr__law_tried : Prom := fun as m U => ∃ (W : Web) (G : Groups), as = [.d (dW W), .d (dG G)] ∧ m = [] ∧ WebOk W ∧ GrOk W G ∧ U (.d (dF (Km.vW W G ([], [], [])))) []
theorem use__law_tried {U : Arg → List Ob → Prop} {W : Web} {G : Groups} (hW : WebOk W) (hG : GrOk W G) (k : U (.d (dF (Km.vW W G ([], [], [])))) []) : pr__law_tried [.d (dW W), .d (dG G)] [] U := ⟨W, G, rfl, rfl, hW, hG, k⟩
theorem len__law_tried (as m W) (h : pr__law_tried as m W) : as.length = 2 := by obtain ⟨_, _, rfl, _⟩ := h; rfl
theorem best_take {f : Nat → Km.Frc} {l : List Nat} {j t : Nat} (h : l[j]? = some t) : Km.bestOf f (l.take (j + 1)) = if Km.less (Km.bestOf f (l.take j)) (f t) then f t else Km.bestOf f (l.take j) := by
  rw [List.take_add_one, h]
  exact Km.bestOf_snoc f _ t
/-- where s itself is told for now -/
theorem tab_look2 {W : Web} {G : Groups} {L : List Wide} (A : AllV W G L) {i : Nat} {s : Wide} (hs : L.reverse[i]? = some s) (hn : s ∉ L.reverse.take i) {t : Nat} (ht : t ∈ Km.askable W (Km.Wide.st s)) (d : D) :
    ∀ b ∈ Km.truths G s.2.2 t, lookN (tab dV (fun u => dF (Km.vW W G u)) (L.reverse.take i) ++ [(key (dV s), d)]) (key (dV (Km.wbehind W G s t b))) = some (dF (Km.vW W G (Km.wbehind W G s t b))) := fun b hb => by
  have h1 := tab_look A hs ht b hb
  rw [look_app fun q => ?_]
  · exact h1
  · have e := key_V q
    rw [e, look_out (e := dV) (v := fun u => dF (Km.vW W G u)) (fun _ _ => key_V) hn] at h1
    cases h1
set_option hygiene false in
local macro_rules | `(tactic| walk_at "dl") => `(tactic| (repeat' (first
  | with_reducible refine wx_op ?_ | with_reducible refine wx_int ?_ | with_reducible refine wx_bl ?_ | with_reducible refine wx_non ?_ | with_reducible refine wa_cons ?_ | with_reducible refine wa_nil ?_
  | ((with_reducible apply wx_var); focus exact rfl)
  | with_reducible refine wx_tup ?_ | with_reducible refine wx_cb ?_ | with_reducible refine wx_negC ?_ | with_reducible refine wx_lst0 ?_
  | with_reducible refine ws_ret ?_ | with_reducible refine ws_seq ?_ | with_reducible refine ws_asg ?_ | with_reducible refine ws_drop ?_ | with_reducible refine ws_next ?_ | with_reducible refine ws_if ?_ | with_reducible refine ws_par ?_
  | with_reducible refine wt_test ?_ | with_reducible refine wt_b ?_ | with_reducible refine wt_not ?_ | with_reducible refine wt_and ?_ | with_reducible refine wt_or ?_
  | with_reducible refine wg_name ?_ | with_reducible refine wg_tup2 ?_ | with_reducible refine wg_tup3 ?_
  | with_reducible refine wr_i0 ?_ | with_reducible refine wr_b0 ?_ | with_reducible refine wr_eqI ?_ | with_reducible refine wr_neI ?_ | with_reducible refine wr_i ?_ ?_
  | ((with_reducible apply wr_ixT); focus exact rfl)
  | with_reducible refine wc_abs ?_ | with_reducible refine wc_lenM ?_ | with_reducible refine wc_lenT ?_ | with_reducible refine wc_max2 ?_ | with_reducible refine wc_min2 ?_ | with_reducible refine wc_intB ?_
  | with_reducible refine ⟨_, rfl, ?_⟩ | with_reducible refine ⟨_, _, rfl, ?_⟩
  | with_reducible refine ⟨[_], map1, len1, ?_⟩ | with_reducible refine ⟨[_, _], map2, len2, ?_⟩ | with_reducible refine ⟨[_, _, _], map3, len3, ?_⟩ | with_reducible refine ⟨[_, _, _, _], map4, len4, ?_⟩ | with_reducible refine ⟨[], map0, len0, ?_⟩
  | with_reducible refine wx_lcT ?_ | with_reducible refine wx_lcT2 ?_ | with_reducible refine wx_lcL ?_ | with_reducible refine wx_lcR ?_ | with_reducible refine wx_lcE ?_ | with_reducible refine wx_cut2 ?_ | with_reducible refine wx_cut_2 ?_ | with_reducible refine wt_yes ?_
  | with_reducible refine ws_forT ?_ | with_reducible refine ws_forL ?_ | with_reducible refine ws_forV ?_ | with_reducible refine ws_forR ?_ | with_reducible refine ws_forE ?_ | with_reducible refine ws_forZ ?_
  | with_reducible refine wr_inN ?_ | with_reducible refine wr_inN2 ?_ | ((with_reducible apply wr_ixT); focus exact tie_at (by assumption)) | ((with_reducible apply wr_ixT); focus exact pat_at (by assumption))
  | with_reducible refine wc_tupZ ?_ | with_reducible refine wc_lenZ ?_ | with_reducible refine wc_allZ ?_ | with_reducible refine wc_sumZ ?_ | with_reducible refine wc_sortTN ?_ | with_reducible refine wc_sortLK ?_
  | ((with_reducible refine wr_catN ?_ ?_); focus (first | omega | skip)) | ((with_reducible refine wr_catN1 ?_ ?_); focus (first | omega | skip)) | ((with_reducible refine wr_catN2 ?_ ?_); focus (first | omega | skip))
  | with_reducible refine ⟨_, _, _, rfl, ?_⟩ | with_reducible refine ⟨_, _, _, _, rfl, ?_⟩
  | with_reducible refine wr_catT (xs := [_, _]) (ys := [_]) cat21 ?_ | with_reducible refine wr_catT (xs := [_, _]) (ys := [_, _]) cat22 ?_
  | with_reducible refine ⟨rfl, ?_⟩
  | assumption
  | with_reducible refine wx_call0 (A := pr__law_wide_stands) ?_ | with_reducible refine use__law_wide_stands ?_ ?_ ?_
  | with_reducible refine use__law_askableW ?_ ?_ ?_
  | with_reducible refine wx_call0 (A := pr__law_askable) ?_ | with_reducible refine use__law_askable ?_ ?_ ?_
  | with_reducible refine wx_callR (A := pr__law_wide_worth) ?_ | with_reducible refine use__law_wide_worth ?_ ?_ ?_ ?_ ?_ ?_
  | with_reducible refine wx_callP (A := pr__law_less) ?_ | with_reducible refine use__law_less ?_ ?_ ?_
  | fail)))

theorem ok__law_tried (T : Txt K mg) (G_law_askable : FnOk P w K mg base CX0 3 T._law_askable.f T._law_askable.fd ["_law_web_here", "_law_stand"] (spD P w K pr__law_askable)) (G_law_less : FnOk P w K mg base CX0 1 T._law_less.f T._law_less.fd ["_law_one", "_law_other"] (spD P w K pr__law_less)) (G_law_wide_stands : FnOk P w K mg base CX0 4 T._law_wide_stands.f T._law_wide_stands.fd ["_law_web_here", "_law_groups"] (spD P w K pr__law_wide_stands)) (G_law_wide_worth : FnOk P w K mg base CX0 4 T._law_wide_worth.f T._law_wide_worth.fd ["_law_web_here", "_law_groups", "_law_worths", "_law_wide", "_law_tie"] (spD P w K pr__law_wide_worth)) : FnOk P w K mg base CX0 5 T._law_tried.f T._law_tried.fd ["_law_web_here", "_law_groups"] (spD P w K pr__law_tried) := by
  refine fnD T._law_tried.F sc__law_tried len__law_tried (fun cdv Ar outer s H E hr => ⟨_, (pss_cons (ps_set (i := 2) sc__law_tried.nd rfl (by first | exact Or.inl rfl | exact Or.inr rfl) (show PE _ _ (tNNew P w) from pe_nnew))
    (pss_cons (ps_for PassesOwn.never rfl (show PI _ _ _ (iRev K _) from pi_reversed rfl T.reversed (pa_cons (pe_call G_law_wide_stands (hr.mono (by decide)) rfl T._law_wide_stands.g T._law_wide_stands.F.kp T._law_wide_stands.b .nil pass0 (pa_cons (pv 0) (pa_cons (pv 1) pa_nil))) pa_nil)) (pg_name (i := 3) sc__law_tried.nd rfl (by first | exact Or.inl rfl | exact Or.inr rfl))
    (pss_cons (ps_asg (pe_tup (pa_cons pe_int (pa_cons pe_int pa_nil))) (pg_sub (pv 2) (pv 3) (show PSet _ (rNSet P w K) from set_n hr.units)))
     (pss_one (ps_for PassesOwn.never rfl (show PI _ _ _ (iList K _) from pi_list (pe_call G_law_askable (hr.mono (by decide)) rfl T._law_askable.g T._law_askable.F.kp T._law_askable.b .nil pass0 (pa_cons (pv 0) (pa_cons (pe_slice (show SlR _ (rSlA K) from sl_tupA) (pv 3) po_none (po_some pe_int)) pa_nil)))) (pg_name (i := 4) sc__law_tried.nd rfl (by first | exact Or.inl rfl | exact Or.inr rfl))
     (pss_cons (ps_set (i := 5) sc__law_tried.nd rfl (by first | exact Or.inl rfl | exact Or.inr rfl) (pe_call G_law_wide_worth (hr.mono (by decide)) rfl T._law_wide_worth.g T._law_wide_worth.F.kp T._law_wide_worth.b .nil pass0 (pa_cons (pv 0) (pa_cons (pv 1) (pa_cons (pv 2) (pa_cons (pv 3) (pa_cons (pv 4) pa_nil)))))))
      (pss_one (ps_if (pt_val (pe_call G_law_less (hr.mono (by decide)) rfl T._law_less.g T._law_less.F.kp T._law_less.b .nil pass0 (pa_cons (pe_ix (show IxR _ (rNGet P w K) from ix_nget hr.units) (pv 2) (pv 3) (fun _ _ => rfl)) (pa_cons (pv 5) pa_nil)))) (pss_one (ps_asg (pv 5) (pg_sub (pv 2) (pv 3) (show PSet _ (rNSet P w K) from set_n hr.units)))) pss_nil)))))))
    (pss_one (ps_ret (pe_ix (show IxR _ (rNGet P w K) from ix_nget hr.units) (pv 2) (pe_tup (pa_cons (pe_tup pa_nil) (pa_cons (pe_tup pa_nil) (pa_cons (pe_tup pa_nil) pa_nil)))) (fun _ _ => rfl)))))), fun as m W h => ?_⟩)
  try dsimp only [cxOf, Cx.nox, Cx.wish]
  obtain ⟨W', G, rfl, rfl, hW, hG, k⟩ := h
  have h5 := web5 hW
  have hpot := Km.pot_web hW
  walk_at "dl"
  refine wx_nnew fun d => ?_
  walk_at "dl"
  intro p L A
  have hlen := A.len
  have hnd : L.reverse.Nodup := nodup_rev A.nd
  walk_at "dl"
  refine ⟨Wide, ([], [], []), L, encV, p, 1, true, rfl, rfl, fun i S' => ∃ o3 o4 o5, S' = ⟨[some (.d (dW W')), some (.d (dG G)), some (.a d), o3, o4, o5],
      [(d, .dct (tab dV (fun u => dF (Km.vW W' G u)) (L.reverse.take i)), true), (p, .lst (L.map encV), true)]⟩, ⟨_, _, _, rfl⟩, ?_, ?_, ?_⟩
  · rintro i S' ⟨o3, o4, o5, rfl⟩
    rfl
  · rintro i s' S' hs' ⟨o3, o4, o5, rfl⟩
    have hs : Km.WP W' G s' := A.p s' (List.mem_reverse.mp (List.mem_of_getElem? hs'))
    have hsp := hs.sp
    have hn := nodup_take hnd hs'
    have hz : (L.reverse.take i).length < 900000 := by rw [List.length_take, List.length_reverse]; omega
    have hout := look_out (e := dV) (v := fun u => dF (Km.vW W' G u)) (fun _ _ => key_V) hn
    walk_at "dl"
    refine wg_nset ?_
    walk_at "dl"
    refine ⟨d, 0, _, _, rfl, rfl, rfl, by rw [tab_len]; omega, kd_V _, ?_⟩
    walk_at "dl"
    intro p1
    refine ⟨Nat, 0, Km.askable W' (Km.Wide.st s'), fun t => .d (dN t), p1, 2, true, rfl, rfl, fun j S' => ∃ o4 o5, S' = ⟨[some (.d (dW W')), some (.d (dG G)), some (.a d), some (.d (dV s')), o4, o5],
      [(d, .dct (tab dV (fun u => dF (Km.vW W' G u)) (L.reverse.take i) ++ [(key (dV s'), dF (Km.bestOf (Km.askW W' G (Km.vW W' G) s') ((Km.askable W' (Km.Wide.st s')).take j)))]), true), (p, .lst (L.map encV), true), (p1, .lst ((Km.askable W' (Km.Wide.st s')).map fun t => .d (dN t)), true)]⟩, ⟨o4, o5, ?_⟩, ?_, ?_, ?_⟩
    · rw [← put_none hout]
      rfl
    · rintro j S' ⟨o4, o5, rfl⟩
      rfl
    · rintro j t S' hj ⟨o4, o5, rfl⟩
      have htm : t ∈ Km.askable W' (Km.Wide.st s') := List.mem_of_getElem? hj
      have ht : t < W'.n := (Km.mem_askable.mp htm).1
      have hok : Ok (Km.bestOf (Km.askW W' G (Km.vW W' G) s') ((Km.askable W' (Km.Wide.st s')).take j)) := Ok.best fun t => Ok.askW hW G s' t
      walk_at "dl"
      refine ⟨0, _, _, _, rfl, use__law_wide_worth hW hs hG ht (tab_look2 A hs' hn htm _) ?_⟩
      walk_at "dl"
      apply wr_nget (n := 0)
      · exact rfl
      · exact kd_V _
      · exact look_app_self hout
      walk_at "dl"
      · exact Ok.askW hW G s' t
      refine ⟨fun hc => ?_, fun hc => ?_⟩
      · walk_at "dl"
        refine wg_nset ?_
        walk_at "dl"
        refine ⟨d, 0, _, _, rfl, rfl, rfl, by rw [List.length_append, tab_len]; show _ + 1 < _; omega, kd_V _, ?_⟩
        refine ⟨_, Le.refl _, some (.d (dN t)), some (.d (dF (Km.askW W' G (Km.vW W' G) s' t))), ?_⟩
        rw [best_take hj, hc, if_pos rfl, ← put_app_self (d := dF (Km.bestOf (Km.askW W' G (Km.vW W' G) s') ((Km.askable W' (Km.Wide.st s')).take j))) (d' := dF (Km.askW W' G (Km.vW W' G) s' t)) hout]
        rfl
      · walk_at "dl"
        refine ⟨_, Le.refl _, some (.d (dN t)), some (.d (dF (Km.askW W' G (Km.vW W' G) s' t))), ?_⟩
        rw [best_take hj, hc]
        rfl
    · rintro S' ⟨o4, o5, rfl⟩
      rw [List.take_length, ← Km.vW_eq hs]
      refine ⟨⟨[some (.d (dW W')), some (.d (dG G)), some (.a d), some (.d (dV s')), o4, o5], _⟩, le_last (m := [_, _]), some (.d (dV s')), o4, o5, ?_⟩
      rw [List.take_add_one, hs', show tab dV (fun u => dF (Km.vW W' G u)) (L.reverse.take i ++ (some s').toList) = tab dV (fun u => dF (Km.vW W' G u)) (L.reverse.take i) ++ [(key (dV s'), dF (Km.vW W' G s'))] by simp [tab]]
  · rintro S' ⟨o3, o4, o5, rfl⟩
    rw [show L.length = L.reverse.length from (List.length_reverse ..).symm, List.take_length]
    have hf : ([], [], []) ∈ L.reverse := List.mem_reverse.mpr (List.mem_of_getElem? A.hd)
    walk_at "dl"
    apply wr_nget (n := 0)
    · exact rfl
    · exact kd_V ([], [], [])
    · exact look_in (e := dV) (v := fun u => dF (Km.vW W' G u)) (fun _ _ => key_V) (s := ([], [], [])) hf
    · exact ⟨_, k, List.nil_sublist _⟩
end
end Dl

/-! the law's own best, with its memory; the same -/
namespace Dl
open PySem PySem.Spec L2
open Km (Web Stand Wide Known Groups WebOk)
section
variable {P : Program} {w : World} {K : PySem.W.Frag} {mg : Str → Option Value} {base : Heap}
abbrev memo (W : Web) (M : List Stand) : List (NestedKey × D) := tab dS (fun u => dF (Km.vS W u)) M
def pr__law_best : Nat → Prom
  | 0 => fun _ _ _ => False
  | n + 1 => fun as m U => ∃ (W : Web) (s : Stand) (d : Addr) (M : List Stand), as = [.d (dW W), .d (dS s), .a d] ∧ m = [(d, .dct (memo W M), true)] ∧ WebOk W ∧ Km.SP W s ∧ M.length + Km.pot (W.n * 2) (W.n - s.1.length) ≤ 500000 ∧ W.n - s.1.length ≤ n ∧
    ∀ M', M'.length ≤ M.length + Km.pot (W.n * 2) (W.n - s.1.length) → U (.d (dF (Km.vS W s))) [(d, .dct (memo W M'), true)]
theorem use__law_best {n : Nat} {U : Arg → List Ob → Prop} {W : Web} {s : Stand} {d : Addr} {M : List Stand} (hW : WebOk W) (hs : Km.SP W s) (hl : M.length + Km.pot (W.n * 2) (W.n - s.1.length) ≤ 500000) (hn : W.n - s.1.length < n)
    (k : ∀ M', M'.length ≤ M.length + Km.pot (W.n * 2) (W.n - s.1.length) → U (.d (dF (Km.vS W s))) [(d, .dct (memo W M'), true)]) : pr__law_best n [.d (dW W), .d (dS s), .a d] [(d, .dct (memo W M), true)] U := by
  obtain ⟨n, rfl⟩ : ∃ n', n = n' + 1 := ⟨n - 1, by omega⟩
  exact ⟨W, s, d, M, rfl, rfl, hW, hs, hl, by omega, k⟩
theorem len__law_best (n : Nat) (as m W) (h : pr__law_best n as m W) : as.length = 3 := by
  cases n with
  | zero => exact h.elim
  | succ n => obtain ⟨_, _, _, _, rfl, _⟩ := h; rfl
theorem fn_none {f : Addr} {fd : FuncData} {ps : List Str} {lv : Nat} {A : Prom} (h : ∀ as m W, ¬ A as m W) : FnOk P w K mg base CX0 lv f fd ps (spD P w K A) :=
  ⟨fun vs H Q E ⟨as, m, F, _, _, _, q, _⟩ => absurd q (h _ _ _), fun A outer s H args us vs Q E _ _ _ _ ⟨as, m, F, _, _, _, q, _⟩ => absurd q (h _ _ _)⟩
theorem two_more {a i n c : Nat} (hi : i + 1 ≤ n) : a + i * 2 * c + c + c ≤ a + (i + 1) * 2 * c ∧ a + (i + 1) * 2 * c ≤ a + n * 2 * c := by
  have h : (i + 1) * 2 * c ≤ n * 2 * c := Nat.mul_le_mul_right _ (Nat.mul_le_mul_right _ hi)
  have h2 : (i + 1) * 2 * c = i * 2 * c + c + c := by rw [Nat.add_mul, Nat.add_mul]; omega
  omega
theorem memo_put (W : Web) (M : List Stand) (s : Stand) : ∃ M3, putN (memo W M) (key (dS s)) (dF (Km.vS W s)) = memo W M3 ∧ M3.length ≤ M.length + 1 ∧ s ∈ M3 := by
  by_cases h : s ∈ M
  · refine ⟨M, ?_, by omega, h⟩
    unfold putN
    rw [look_in (e := dS) (v := fun u => dF (Km.vS W u)) (fun _ _ => key_S) h, Option.isSome_some, if_pos rfl]
    unfold memo tab
    rw [List.map_map]
    refine List.map_congr_left fun u hu => ?_
    show (if key (dS u) = key (dS s) then (key (dS u), dF (Km.vS W s)) else (key (dS u), dF (Km.vS W u))) = _
    split
    · rename_i q
      rw [key_S q]
    · rfl
  · exact ⟨M ++ [s], put_new (e := dS) (v := fun u => dF (Km.vS W u)) (fun _ _ => key_S) h, by simp, by simp⟩
set_option hygiene false in
local macro_rules | `(tactic| walk_at "dl") => `(tactic| (repeat' (first
  | with_reducible refine wx_op ?_ | with_reducible refine wx_int ?_ | with_reducible refine wx_bl ?_ | with_reducible refine wx_non ?_ | with_reducible refine wa_cons ?_ | with_reducible refine wa_nil ?_
  | ((with_reducible apply wx_var); focus exact rfl)
  | with_reducible refine wx_tup ?_ | with_reducible refine wx_cb ?_ | with_reducible refine wx_negC ?_ | with_reducible refine wx_lst0 ?_
  | with_reducible refine ws_ret ?_ | with_reducible refine ws_seq ?_ | with_reducible refine ws_asg ?_ | with_reducible refine ws_drop ?_ | with_reducible refine ws_next ?_ | with_reducible refine ws_if ?_ | with_reducible refine ws_par ?_
  | with_reducible refine wt_test ?_ | with_reducible refine wt_b ?_ | with_reducible refine wt_not ?_ | with_reducible refine wt_and ?_ | with_reducible refine wt_or ?_
  | with_reducible refine wg_name ?_ | with_reducible refine wg_tup2 ?_ | with_reducible refine wg_tup3 ?_
  | with_reducible refine wr_i0 ?_ | with_reducible refine wr_b0 ?_ | with_reducible refine wr_eqI ?_ | with_reducible refine wr_neI ?_ | with_reducible refine wr_i ?_ ?_
  | ((with_reducible apply wr_ixT); focus exact rfl)
  | with_reducible refine wc_abs ?_ | with_reducible refine wc_lenM ?_ | with_reducible refine wc_lenT ?_ | with_reducible refine wc_max2 ?_ | with_reducible refine wc_min2 ?_ | with_reducible refine wc_intB ?_
  | with_reducible refine ⟨_, rfl, ?_⟩ | with_reducible refine ⟨_, _, rfl, ?_⟩
  | with_reducible refine ⟨[_], map1, len1, ?_⟩ | with_reducible refine ⟨[_, _], map2, len2, ?_⟩ | with_reducible refine ⟨[_, _, _], map3, len3, ?_⟩ | with_reducible refine ⟨[_, _, _, _], map4, len4, ?_⟩ | with_reducible refine ⟨[], map0, len0, ?_⟩
  | with_reducible refine wx_lcT ?_ | with_reducible refine wx_lcT2 ?_ | with_reducible refine wx_lcL ?_ | with_reducible refine wx_lcR ?_ | with_reducible refine wx_lcE ?_ | with_reducible refine wx_cut2 ?_ | with_reducible refine wx_cut_2 ?_ | with_reducible refine wt_yes ?_
  | with_reducible refine ws_forT ?_ | with_reducible refine ws_forL ?_ | with_reducible refine ws_forV ?_ | with_reducible refine ws_forR ?_ | with_reducible refine ws_forE ?_ | with_reducible refine ws_forZ ?_
  | with_reducible refine wr_inN ?_ | with_reducible refine wr_inN2 ?_ | ((with_reducible apply wr_ixT); focus exact tie_at (by assumption)) | ((with_reducible apply wr_ixT); focus exact pat_at (by assumption))
  | with_reducible refine wc_tupZ ?_ | with_reducible refine wc_lenZ ?_ | with_reducible refine wc_allZ ?_ | with_reducible refine wc_sumZ ?_ | with_reducible refine wc_sortTN ?_ | with_reducible refine wc_sortLK ?_
  | ((with_reducible refine wr_catN ?_ ?_); focus (first | omega | skip)) | ((with_reducible refine wr_catN1 ?_ ?_); focus (first | omega | skip)) | ((with_reducible refine wr_catN2 ?_ ?_); focus (first | omega | skip))
  | with_reducible refine ⟨_, _, _, rfl, ?_⟩ | with_reducible refine ⟨_, _, _, _, rfl, ?_⟩
  | with_reducible refine wr_catT (xs := [_, _]) (ys := [_]) cat21 ?_ | with_reducible refine wr_catT (xs := [_, _]) (ys := [_, _]) cat22 ?_
  | with_reducible refine ⟨rfl, ?_⟩
  | assumption
  | with_reducible refine wx_call0 (A := pr__law_askable) ?_ | with_reducible refine use__law_askable ?_ ?_ ?_
  | with_reducible refine wx_callP (A := pr__law_behind) ?_ | with_reducible refine use__law_behind ?_ ?_ ?_ ?_
  | with_reducible refine use__law_plus1 ?_ ?_ ?_
  | with_reducible refine wx_callP (A := pr__law_plus) ?_ | with_reducible refine use__law_plus ?_ ?_ ?_
  | with_reducible refine wx_callP (A := pr__law_times) ?_ | with_reducible refine use__law_times ?_ ?_ ?_
  | with_reducible refine wx_callP (A := pr__law_rest) ?_ | with_reducible refine use__law_rest ?_
  | with_reducible refine wx_callP (A := pr__law_less) ?_ | with_reducible refine use__law_less ?_ ?_ ?_
  | fail)))

theorem ok__law_best (T : Txt K mg) (G_law_askable : FnOk P w K mg base CX0 3 T._law_askable.f T._law_askable.fd ["_law_web_here", "_law_stand"] (spD P w K pr__law_askable)) (G_law_behind : FnOk P w K mg base CX0 1 T._law_behind.f T._law_behind.fd ["_law_web_here", "_law_stand", "_law_tie", "_law_truth"] (spD P w K pr__law_behind)) (G_law_less : FnOk P w K mg base CX0 1 T._law_less.f T._law_less.fd ["_law_one", "_law_other"] (spD P w K pr__law_less)) (G_law_plus : FnOk P w K mg base CX0 3 T._law_plus.f T._law_plus.fd ["_law_one", "_law_other"] (spD P w K pr__law_plus)) (G_law_rest : FnOk P w K mg base CX0 1 T._law_rest.f T._law_rest.fd ["_law_one"] (spD P w K pr__law_rest)) (G_law_times : FnOk P w K mg base CX0 3 T._law_times.f T._law_times.fd ["_law_one", "_law_other"] (spD P w K pr__law_times)) {lv n : Nat} (hlv : 12 ≤ lv) (G_law_best : FnOk P w K mg base CX0 lv T._law_best.f T._law_best.fd ["_law_web_here", "_law_stand", "_law_known"] (spD P w K (pr__law_best n))) : FnOk P w K mg base CX0 (lv + 1) T._law_best.f T._law_best.fd ["_law_web_here", "_law_stand", "_law_known"] (spD P w K (pr__law_best (n + 1))) := by
  refine fnD T._law_best.F sc__law_best (len__law_best (n + 1)) (fun cdv Ar outer s H E hr => ⟨_, (pss_cons (ps_if (pt_cmpR (show OpR _ _ (rNIn P w K true) from op_nnotin hr.units) (pv 1) (pv 2) (by rfl)) (pss_cons (ps_set (i := 3) sc__law_best.nd rfl (by first | exact Or.inl rfl | exact Or.inr rfl) (pe_tup (pa_cons pe_int (pa_cons pe_int pa_nil))))
     (pss_cons (ps_for PassesOwn.never rfl (show PI _ _ _ (iList K _) from pi_list (pe_call G_law_askable (hr.mono (by omega)) rfl T._law_askable.g T._law_askable.F.kp T._law_askable.b .nil pass0 (pa_cons (pv 0) (pa_cons (pv 1) pa_nil)))) (pg_name (i := 4) sc__law_best.nd rfl (by first | exact Or.inl rfl | exact Or.inr rfl))
     (pss_cons (ps_asg (pe_slice (show SlR _ (rSlA K) from sl_tupA) (pe_ix (show IxR _ (rIxT K) from ix_tup) (pe_ix (show IxR _ (rIxT K) from ix_tup) (pv 0) pe_int (fun _ _ => rfl)) (pv 4) (fun _ _ => rfl)) (po_some pe_int) po_none) (show PG _ _ (gTup K 2 _) from pg_tup (n := 2) rfl (pgs_cons (pg_name (i := 5) sc__law_best.nd rfl (by first | exact Or.inl rfl | exact Or.inr rfl)) (pgs_cons (pg_name (i := 6) sc__law_best.nd rfl (by first | exact Or.inl rfl | exact Or.inr rfl)) pgs_nil))))
      (pss_cons (ps_set (i := 7) sc__law_best.nd rfl (by first | exact Or.inl rfl | exact Or.inr rfl) (pe_call G_law_plus (hr.mono (by omega)) rfl T._law_plus.g T._law_plus.F.kp T._law_plus.b .nil pass0 (pa_cons (pe_tup (pa_cons (pv 6) (pa_cons pe_int pa_nil))) (pa_cons (pe_call G_law_best (hr.mono (by omega)) rfl T._law_best.g T._law_best.F.kp T._law_best.b .nil pass0 (pa_cons (pv 0) (pa_cons (pe_call G_law_behind (hr.mono (by omega)) rfl T._law_behind.g T._law_behind.F.kp T._law_behind.b .nil pass0 (pa_cons (pv 0) (pa_cons (pv 1) (pa_cons (pv 4) (pa_cons pe_bl pa_nil))))) (pa_cons (pv 2) pa_nil)))) pa_nil))))
      (pss_cons (ps_set (i := 8) sc__law_best.nd rfl (by first | exact Or.inl rfl | exact Or.inr rfl) (pe_call G_law_best (hr.mono (by omega)) rfl T._law_best.g T._law_best.F.kp T._law_best.b .nil pass0 (pa_cons (pv 0) (pa_cons (pe_call G_law_behind (hr.mono (by omega)) rfl T._law_behind.g T._law_behind.F.kp T._law_behind.b .nil pass0 (pa_cons (pv 0) (pa_cons (pv 1) (pa_cons (pv 4) (pa_cons pe_bl pa_nil))))) (pa_cons (pv 2) pa_nil)))))
      (pss_cons (ps_set (i := 9) sc__law_best.nd rfl (by first | exact Or.inl rfl | exact Or.inr rfl) (pe_call G_law_plus (hr.mono (by omega)) rfl T._law_plus.g T._law_plus.F.kp T._law_plus.b .nil pass0 (pa_cons (pe_call G_law_times (hr.mono (by omega)) rfl T._law_times.g T._law_times.F.kp T._law_times.b .nil pass0 (pa_cons (pv 5) (pa_cons (pv 7) pa_nil))) (pa_cons (pe_call G_law_times (hr.mono (by omega)) rfl T._law_times.g T._law_times.F.kp T._law_times.b .nil pass0 (pa_cons (pe_call G_law_rest (hr.mono (by omega)) rfl T._law_rest.g T._law_rest.F.kp T._law_rest.b .nil pass0 (pa_cons (pv 5) pa_nil)) (pa_cons (pv 8) pa_nil))) pa_nil))))
      (pss_one (ps_if (pt_val (pe_call G_law_less (hr.mono (by omega)) rfl T._law_less.g T._law_less.F.kp T._law_less.b .nil pass0 (pa_cons (pv 3) (pa_cons (pv 9) pa_nil)))) (pss_one (ps_set (i := 3) sc__law_best.nd rfl (by first | exact Or.inl rfl | exact Or.inr rfl) (pv 9))) pss_nil)))))))
     (pss_one (ps_asg (pv 3) (pg_sub (pv 2) (pv 1) (show PSet _ (rNSet P w K) from set_n hr.units)))))) pss_nil)
    (pss_one (ps_ret (pe_ix (show IxR _ (rNGet P w K) from ix_nget hr.units) (pv 2) (pv 1) (fun _ _ => rfl))))), fun as m W h => ?_⟩)
  try dsimp only [cxOf, Cx.nox, Cx.wish]
  obtain ⟨W', s', d, M, rfl, rfl, hW, hs, hl, hn, k⟩ := h
  have h5 := web5 hW
  have hpp := Km.pot_pos (W'.n * 2) (W'.n - s'.1.length)
  walk_at "dl"
  apply wr_nin (n := 0)
  · exact rfl
  · exact kd_S _
  refine ⟨_, rfl, fun hc => ?_, fun hc => ?_⟩
  · have hal := Km.askable_len W' s'
    walk_at "dl"
    intro p1
    refine ⟨Nat, 0, Km.askable W' s', fun t => .d (dN t), p1, 1, true, rfl, rfl, fun j S' => ∃ M' o4 o5 o6 o7 o8 o9, M'.length ≤ M.length + j * 2 * Km.pot (W'.n * 2) (W'.n - (s'.1.length + 1)) ∧ S' = ⟨[some (.d (dW W')), some (.d (dS s')), some (.a d), some (.d (dF (Km.bestOf (Km.askS W' (Km.vS W') s') ((Km.askable W' s').take j)))), o4, o5, o6, o7, o8, o9],
      [(d, .dct (memo W' M'), true), (p1, .lst ((Km.askable W' s').map fun t => .d (dN t)), true)]⟩, ⟨M, _, _, _, _, _, _, by omega, rfl⟩, ?_, ?_, ?_⟩
    · rintro j S' ⟨M', o4, o5, o6, o7, o8, o9, hM, rfl⟩
      rfl
    · rintro j t S' hj ⟨M', o4, o5, o6, o7, o8, o9, hM, rfl⟩
      have htm : t ∈ Km.askable W' s' := List.mem_of_getElem? hj
      have ht : t < W'.n := (Km.mem_askable.mp htm).1
      have hmore := hs.more htm
      have hjl := (List.getElem?_eq_some_iff.mp hj).1
      have b1 := hs.behind htm true
      have b0 := hs.behind htm false
      have l1 := Km.behind_len W' s' t true
      have l0 := Km.behind_len W' s' t false
      have hpot : Km.pot (W'.n * 2) (W'.n - s'.1.length) = 1 + W'.n * 2 * Km.pot (W'.n * 2) (W'.n - (s'.1.length + 1)) := by
        obtain ⟨x, hx⟩ : ∃ x, W'.n - s'.1.length = x + 1 := ⟨W'.n - s'.1.length - 1, by omega⟩
        rw [hx, show W'.n - (s'.1.length + 1) = x by omega]
        rfl
      obtain ⟨m1, m2⟩ := two_more (a := M.length) (i := j) (n := W'.n) (c := Km.pot (W'.n * 2) (W'.n - (s'.1.length + 1))) (by omega)
      have hok : Ok (Km.bestOf (Km.askS W' (Km.vS W') s') ((Km.askable W' s').take j)) := Ok.best fun t => Ok.askS hW s' t
      have hc1 := (hW.ch t).1
      have hc2 := (hW.ch t).2
      walk_at "dl"
      refine wx_call1 ?_
      walk_at "dl"
      refine ⟨0, _, _, rfl, use__law_best hW b1 (by rw [l1]; omega) (by rw [l1]; omega) fun M1 hM1 => ?_⟩
      rw [l1] at hM1
      walk_at "dl"
      · exact Ok.nat (by omega)
      · exact Ok.fine (Km.vS_fine hW _)
      walk_at "dl"
      refine wx_call1 ?_
      walk_at "dl"
      refine ⟨0, _, _, rfl, use__law_best hW b0 (by rw [l0]; omega) (by rw [l0]; omega) fun M2 hM2 => ?_⟩
      rw [l0] at hM2
      walk_at "dl"
      · exact Ok.ch hc1
      · exact av_ok1 hc2 (Km.vS_fine hW _)
      · exact Ok.rch hc1
      · exact Ok.fine (Km.vS_fine hW _)
      · exact av_ok2 hc1 hc2 (Km.vS_fine hW _)
      · exact av_ok3 hc1 (Km.vS_fine hW _)
      · exact Ok.askS hW s' t
      refine ⟨fun hc => ?_, fun hc => ?_⟩
      · walk_at "dl"
        refine ⟨_, Le.refl _, M2, some (.d (dN t)), some (.d (dF (W'.tie t).c)), some (.d (dN (W'.tie t).w)), some (.d (dF (Km.plus (((W'.tie t).w : Int), 1) (Km.vS W' (Km.behind W' s' t true))))), some (.d (dF (Km.vS W' (Km.behind W' s' t false)))), some (.d (dF (Km.askS W' (Km.vS W') s' t))), by omega, ?_⟩
        have hc' : Km.less (Km.bestOf (Km.askS W' (Km.vS W') s') ((Km.askable W' s').take j)) (Km.askS W' (Km.vS W') s' t) = true := hc
        rw [best_take hj, hc']
        rfl
      · walk_at "dl"
        refine ⟨_, Le.refl _, M2, some (.d (dN t)), some (.d (dF (W'.tie t).c)), some (.d (dN (W'.tie t).w)), some (.d (dF (Km.plus (((W'.tie t).w : Int), 1) (Km.vS W' (Km.behind W' s' t true))))), some (.d (dF (Km.vS W' (Km.behind W' s' t false)))), some (.d (dF (Km.askS W' (Km.vS W') s' t))), by omega, ?_⟩
        have hc' : Km.less (Km.bestOf (Km.askS W' (Km.vS W') s') ((Km.askable W' s').take j)) (Km.askS W' (Km.vS W') s' t) = false := hc
        rw [best_take hj, hc']
        rfl
    · rintro S' ⟨M', o4, o5, o6, o7, o8, o9, hM, rfl⟩
      rw [List.take_length, ← Km.vS_eq hs]
      have hM2 : M'.length + 1 ≤ M.length + Km.pot (W'.n * 2) (W'.n - s'.1.length) := by
        cases q : Km.askable W' s' with
        | nil =>
          rw [q] at hM
          simp only [List.length_nil, Nat.zero_mul] at hM
          omega
        | cons t l =>
          have hmore := hs.more (t := t) (by rw [q]; exact List.mem_cons_self)
          have hpot : Km.pot (W'.n * 2) (W'.n - s'.1.length) = 1 + W'.n * 2 * Km.pot (W'.n * 2) (W'.n - (s'.1.length + 1)) := by
            obtain ⟨x, hx⟩ : ∃ x, W'.n - s'.1.length = x + 1 := ⟨W'.n - s'.1.length - 1, by omega⟩
            rw [hx, show W'.n - (s'.1.length + 1) = x by omega]
            rfl
          have h1 : (Km.askable W' s').length * 2 * Km.pot (W'.n * 2) (W'.n - (s'.1.length + 1)) ≤ W'.n * 2 * Km.pot (W'.n * 2) (W'.n - (s'.1.length + 1)) := Nat.mul_le_mul_right _ (Nat.mul_le_mul_right _ hal)
          omega
      walk_at "dl"
      refine wg_nset ?_
      walk_at "dl"
      refine ⟨d, 0, _, _, rfl, rfl, rfl, by rw [tab_len]; omega, kd_S _, ?_⟩
      obtain ⟨M3, h3, h4⟩ := memo_put W' M' s'
      have h3' : putN (memo W' M') (key (.tup [dNs s'.1, dNs s'.2])) (dF (Km.vS W' s')) = memo W' M3 := h3
      rw [h3']
      walk_at "dl"
      apply wr_nget (n := 0)
      · exact rfl
      · exact kd_S _
      · exact look_in (e := dS) (v := fun u => dF (Km.vS W' u)) (fun _ _ => key_S) h4.2
      · exact ⟨_, k M3 (by omega), List.sublist_append_left [_] [_]⟩
  · have hc' : (!(lookN (memo W' M) (key (dS s'))).isSome) = false := hc
    rw [look_some (fun _ _ => key_S)] at hc'
    have hm : s' ∈ M := by simpa using hc'
    walk_at "dl"
    apply wr_nget (n := 0)
    · exact rfl
    · exact kd_S _
    · exact look_in (e := dS) (v := fun u => dF (Km.vS W' u)) (fun _ _ => key_S) hm
    · exact ⟨_, k M (by omega), List.Sublist.refl _⟩
/-! ### the same -/
def pr__law_same : Prom := fun as m U => ∃ p : Km.Frc, as = [.d (dF p), .d (dF p)] ∧ m = [] ∧ Km.Fine 838 p ∧ U (.d (.bl true)) []
theorem use__law_same {U : Arg → List Ob → Prop} {p : Km.Frc} (h : Km.Fine 838 p) (k : U (.d (.bl true)) []) : pr__law_same [.d (dF p), .d (dF p)] [] U := ⟨p, rfl, rfl, h, k⟩
theorem len__law_same (as m W) (h : pr__law_same as m W) : as.length = 2 := by obtain ⟨_, rfl, _⟩ := h; rfl
theorem log_of {i : Int} (h : i.natAbs < 2 ^ 838) : i.natAbs.log2 < 1920 := by
  by_cases h0 : i.natAbs = 0
  · rw [h0]; decide
  · exact Nat.lt_of_lt_of_le ((Nat.log2_lt h0).mpr h) (by decide)
theorem ok__law_same (T : Txt K mg)  : FnG P w K mg base 1 T._law_same.f T._law_same.fd ["_law_found", "_law_due"] (spD P w K pr__law_same) := by
  refine fnDG T._law_same.F sc__law_same len__law_same (fun cdv Ar outer s H E hg hr => ⟨_, (pss_one (ps_ret (pe_cmpR op_eq (pe_callB (show CallR _ _ (rReprD K) from cr_reprD hr.units hg) (by rfl) T.repr PyProof.Rows.boot_repr (pa_cons (pv 0) pa_nil)) (pe_callB (show CallR _ _ (rReprD K) from cr_reprD hr.units hg) (by rfl) T.repr PyProof.Rows.boot_repr (pa_cons (pv 1) pa_nil)) (nomark _)))), fun as m W h => ?_⟩)
  try dsimp only [cxOf, Cx.nox, Cx.wish]
  obtain ⟨p, rfl, rfl, hp, k⟩ := h
  refine ws_ret (wx_same ?_)
  walk_at "dl"
  refine ⟨log_of hp.bd.1, log_of hp.bd.2, ?_⟩
  walk_at "dl"
  exact ⟨_, k, List.nil_sublist _⟩
end
end Dl

/-! trees, answers -/
namespace Dl
open PySem PySem.Spec L2
open Km (Web Stand Wide Known Groups WebOk Node)
section
variable {P : Program} {w : World} {K : PySem.W.Frag} {mg : Str → Option Value} {base : Heap}
abbrev encB (a : List Bool) : Arg := .d (dBs a)
def pr__law_all_answers : Prom := fun as m U => ∃ n : Nat, as = [.d (dN n)] ∧ m = [] ∧ n ≤ 5 ∧ ∀ p, U (.a p) [(p, .lst ((Km.allAns n).map encB), true)]
theorem use__law_all_answers {U : Arg → List Ob → Prop} {n : Nat} (hn : n ≤ 5) (k : ∀ p, U (.a p) [(p, .lst ((Km.allAns n).map encB), true)]) : pr__law_all_answers [.d (dN n)] [] U := ⟨n, rfl, rfl, hn, k⟩
theorem len__law_all_answers (as m W) (h : pr__law_all_answers as m W) : as.length = 1 := by obtain ⟨_, rfl, _⟩ := h; rfl
theorem ans_few {n : Nat} (h : n ≤ 5) : (Km.allAns n).length ≤ 32 := by
  rw [Km.allAns_count]
  exact Nat.pow_le_pow_right (by decide) h
theorem more_ans (L : List (List Bool)) (b : Bool) : (L.filter fun _ => true).map (fun a => Arg.d (.tup (a.map D.bl ++ [.bl b]))) = (L.map (· ++ [b])).map encB := by
  rw [List.filter_eq_self.mpr (fun _ _ => rfl), List.map_map]
  refine List.map_congr_left fun a _ => ?_
  show Arg.d (.tup (a.map D.bl ++ [.bl b])) = Arg.d (.tup ((a ++ [b]).map D.bl))
  rw [List.map_append]
  rfl
set_option hygiene false in
local macro_rules | `(tactic| walk_at "dl") => `(tactic| (repeat' (first
  | with_reducible refine wx_op ?_ | with_reducible refine wx_int ?_ | with_reducible refine wx_bl ?_ | with_reducible refine wx_non ?_ | with_reducible refine wa_cons ?_ | with_reducible refine wa_nil ?_
  | ((with_reducible apply wx_var); focus exact rfl)
  | with_reducible refine wx_tup ?_ | with_reducible refine wx_cb ?_ | with_reducible refine wx_negC ?_ | with_reducible refine wx_lst0 ?_
  | with_reducible refine ws_ret ?_ | with_reducible refine ws_seq ?_ | with_reducible refine ws_asg ?_ | with_reducible refine ws_drop ?_ | with_reducible refine ws_next ?_ | with_reducible refine ws_if ?_ | with_reducible refine ws_par ?_
  | with_reducible refine wt_test ?_ | with_reducible refine wt_b ?_ | with_reducible refine wt_not ?_ | with_reducible refine wt_and ?_ | with_reducible refine wt_or ?_
  | with_reducible refine wg_name ?_ | with_reducible refine wg_tup2 ?_ | with_reducible refine wg_tup3 ?_
  | with_reducible refine wr_i0 ?_ | with_reducible refine wr_b0 ?_ | with_reducible refine wr_eqI ?_ | with_reducible refine wr_neI ?_ | with_reducible refine wr_i ?_ ?_
  | ((with_reducible apply wr_ixT); focus exact rfl)
  | with_reducible refine wc_abs ?_ | with_reducible refine wc_lenM ?_ | with_reducible refine wc_lenT ?_ | with_reducible refine wc_max2 ?_ | with_reducible refine wc_min2 ?_ | with_reducible refine wc_intB ?_
  | with_reducible refine ⟨_, rfl, ?_⟩ | with_reducible refine ⟨_, _, rfl, ?_⟩
  | with_reducible refine ⟨[_], map1, len1, ?_⟩ | with_reducible refine ⟨[_, _], map2, len2, ?_⟩ | with_reducible refine ⟨[_, _, _], map3, len3, ?_⟩ | with_reducible refine ⟨[_, _, _, _], map4, len4, ?_⟩ | with_reducible refine ⟨[], map0, len0, ?_⟩
  | with_reducible refine wx_lcT ?_ | with_reducible refine wx_lcT2 ?_ | with_reducible refine wx_lcL ?_ | with_reducible refine wx_lcR ?_ | with_reducible refine wx_lcE ?_ | with_reducible refine wx_cut2 ?_ | with_reducible refine wx_cut_2 ?_ | with_reducible refine wt_yes ?_
  | with_reducible refine ws_forT ?_ | with_reducible refine ws_forL ?_ | with_reducible refine ws_forV ?_ | with_reducible refine ws_forR ?_ | with_reducible refine ws_forE ?_ | with_reducible refine ws_forZ ?_
  | with_reducible refine wr_inN ?_ | with_reducible refine wr_inN2 ?_ | ((with_reducible apply wr_ixT); focus exact tie_at (by assumption)) | ((with_reducible apply wr_ixT); focus exact pat_at (by assumption))
  | with_reducible refine wc_tupZ ?_ | with_reducible refine wc_lenZ ?_ | with_reducible refine wc_allZ ?_ | with_reducible refine wc_sumZ ?_ | with_reducible refine wc_sortTN ?_ | with_reducible refine wc_sortLK ?_
  | ((with_reducible refine wr_catN ?_ ?_); focus (first | omega | skip)) | ((with_reducible refine wr_catN1 ?_ ?_); focus (first | omega | skip)) | ((with_reducible refine wr_catN2 ?_ ?_); focus (first | omega | skip))
  | with_reducible refine ⟨_, _, _, rfl, ?_⟩ | with_reducible refine ⟨_, _, _, _, rfl, ?_⟩
  | with_reducible refine wr_catT (xs := [_, _]) (ys := [_]) cat21 ?_ | with_reducible refine wr_catT (xs := [_, _]) (ys := [_, _]) cat22 ?_
  | with_reducible refine ⟨rfl, ?_⟩
  | assumption
  | fail)))

theorem ok__law_all_answers (T : Txt K mg)  : FnOk P w K mg base CX0 1 T._law_all_answers.f T._law_all_answers.fd ["_law_many"] (spD P w K pr__law_all_answers) := by
  refine fnD T._law_all_answers.F sc__law_all_answers len__law_all_answers (fun cdv Ar outer s H E hr => ⟨_, (pss_cons (ps_set (i := 1) sc__law_all_answers.nd rfl (by first | exact Or.inl rfl | exact Or.inr rfl) (pe_lst (pa_cons (pe_tup pa_nil) pa_nil)))
    (pss_cons (ps_for PassesOwn.never rfl (pi_range1 rfl T.range (pa_cons (pv 0) pa_nil)) (pg_name (i := 2) sc__law_all_answers.nd rfl (by first | exact Or.inl rfl | exact Or.inr rfl))
    (pss_one (ps_set (i := 1) sc__law_all_answers.nd rfl (by first | exact Or.inl rfl | exact Or.inr rfl) (pe_op op_cat (pe_lc (own := [("_law_row", 3)]) rfl sc__law_all_answers.nd (show PI _ _ _ (iList K _) from pi_list (pv 1)) (blkOk_by (N := N__law_all_answers) (sc := defScope s__law_all_answers) (by decide +kernel)) (fun _ _ _ _ _ =>  (pg_name (i := 3) sc__law_all_answers.nd rfl (by first | exact Or.inl rfl | exact Or.inr rfl))) (fun _ _ _ _ _ =>  pts_nil) (fun _ _ _ _ _ =>  (pe_op (show OpR _ _ (rCatA K) from op_catA) (pv 3) (pe_tup (pa_cons pe_bl pa_nil))))) (pe_lc (own := [("_law_row", 3)]) rfl sc__law_all_answers.nd (show PI _ _ _ (iList K _) from pi_list (pv 1)) (blkOk_by (N := N__law_all_answers) (sc := defScope s__law_all_answers) (by decide +kernel)) (fun _ _ _ _ _ =>  (pg_name (i := 3) sc__law_all_answers.nd rfl (by first | exact Or.inl rfl | exact Or.inr rfl))) (fun _ _ _ _ _ =>  pts_nil) (fun _ _ _ _ _ =>  (pe_op (show OpR _ _ (rCatA K) from op_catA) (pv 3) (pe_tup (pa_cons pe_bl pa_nil)))))))))
    (pss_one (ps_ret (pv 1))))), fun as m W h => ?_⟩)
  try dsimp only [cxOf, Cx.nox, Cx.wish]
  obtain ⟨n, rfl, rfl, hn, k⟩ := h
  walk_at "dl"
  refine wx_lst (wa_cons ?_)
  walk_at "dl"
  refine ⟨len_le rfl, fun p0 => ?_⟩
  walk_at "dl"
  refine ⟨by omega, fun i S' => ∃ p o2, S' = ⟨[some (.d (dN n)), some (.a p), o2, none], [(p, .lst ((Km.allAns i).map encB), true)]⟩, ⟨p0, none, rfl⟩, ?_, ?_⟩
  · rintro i S' hi ⟨p, o2, rfl⟩
    have h32 := ans_few (n := i) (by omega)
    walk_at "dl"
    refine ⟨List Bool, [], Km.allAns i, encB, p, 0, true, rfl, rfl, by decide, by omega, fun _ => true, fun a => .d (.tup (a.map D.bl ++ [.bl true])), fun a ob ha => ?_, fun p1 => ?_⟩
    · have hla := Km.allAns_len i a ha
      walk_at "dl"
      refine ⟨fun _ => ?_, fun h => nomatch h⟩
      walk_at "dl"
      refine wr_catT (by rw [List.length_map, hla]; show i + 1 ≤ _; omega) ?_
      exact ⟨rfl, List.prefix_refl _⟩
    rw [more_ans]
    walk_at "dl"
    refine ⟨List Bool, [], Km.allAns i, encB, p, 0, true, rfl, rfl, by decide, by omega, fun _ => true, fun a => .d (.tup (a.map D.bl ++ [.bl false])), fun a ob ha => ?_, fun p2 => ?_⟩
    · have hla := Km.allAns_len i a ha
      walk_at "dl"
      refine ⟨fun _ => ?_, fun h => nomatch h⟩
      walk_at "dl"
      refine wr_catT (by rw [List.length_map, hla]; show i + 1 ≤ _; omega) ?_
      exact ⟨rfl, List.prefix_refl _⟩
    rw [more_ans]
    refine wr_catL (n := 1) (j := 2) rfl rfl (by simp only [List.length_map]; omega) fun l => ?_
    walk_at "dl"
    refine ⟨⟨[some (.d (dN n)), some (.a l), some (.d (dN i)), none], [(l, .lst ((Km.allAns (i + 1)).map encB), true)]⟩, ⟨LeR.get ⟨rfl, rfl, rfl, trivial⟩, rfl, ?_⟩, l, some (.d (dN i)), rfl⟩
    rw [show Km.allAns (i + 1) = (Km.allAns i).map (· ++ [true]) ++ (Km.allAns i).map (· ++ [false]) from rfl, List.map_append]
    exact List.sublist_append_right [_, _, _] [_]
  · rintro S' ⟨p, o2, rfl⟩
    walk_at "dl"
    exact ⟨_, k p, List.Sublist.refl _⟩
/-! ### a run of a tree -/
structure Fit (nodes : List Node) (N : Nat) : Prop where
  lt : ∀ (i t : Nat) (y n : Int), nodes[i]? = some (t, y, n) → t < N
  y : ∀ (i t : Nat) (y n : Int), nodes[i]? = some (t, y, n) → y = -1 ∨ ∃ k : Nat, y = (k : Int) ∧ i < k ∧ k < nodes.length
  n : ∀ (i t : Nat) (y n : Int), nodes[i]? = some (t, y, n) → n = -1 ∨ ∃ k : Nat, n = (k : Int) ∧ i < k ∧ k < nodes.length
abbrev ansL (a : List Bool) (t : Nat) : Bool := a.getD t false
/-- the run from the first node -/
def runT (nodes : List Node) (a : List Bool) : List (Nat × Bool) := Km.runF nodes (ansL a) nodes.length (if nodes = [] then -1 else 0)
def pr__law_run_tree : Prom := fun as m U => ∃ (nodes : List Node) (a : List Bool), as = [.d (.tup (nodes.map dNode)), .d (dBs a)] ∧ m = [] ∧ nodes.length ≤ 1000 ∧ Fit nodes a.length ∧ U (.d (dKn (runT nodes a))) []
theorem use__law_run_tree {U : Arg → List Ob → Prop} {nodes : List Node} {a : List Bool} (hl : nodes.length ≤ 1000) (hf : Fit nodes a.length) (k : U (.d (dKn (runT nodes a))) []) : pr__law_run_tree [.d (.tup (nodes.map dNode)), .d (dBs a)] [] U := ⟨nodes, a, rfl, rfl, hl, hf, k⟩
theorem len__law_run_tree (as m W) (h : pr__law_run_tree as m W) : as.length = 2 := by obtain ⟨_, _, rfl, _⟩ := h; rfl
theorem runF_len (nodes : List Node) (ans : Nat → Bool) : ∀ (k : Nat) (j : Int), (Km.runF nodes ans k j).length ≤ k
  | 0, _ => Nat.le_refl _
  | k + 1, j => by
    unfold Km.runF
    split
    · simp
    · split
      · simp
      · have := runF_len nodes ans k
        simp [this]
set_option hygiene false in
local macro_rules | `(tactic| walk_at "dl") => `(tactic| (repeat' (first
  | with_reducible refine wx_op ?_ | with_reducible refine wx_int ?_ | with_reducible refine wx_bl ?_ | with_reducible refine wx_non ?_ | with_reducible refine wa_cons ?_ | with_reducible refine wa_nil ?_
  | ((with_reducible apply wx_var); focus exact rfl)
  | with_reducible refine wx_tup ?_ | with_reducible refine wx_cb ?_ | with_reducible refine wx_negC ?_ | with_reducible refine wx_lst0 ?_
  | with_reducible refine ws_ret ?_ | with_reducible refine ws_seq ?_ | with_reducible refine ws_asg ?_ | with_reducible refine ws_drop ?_ | with_reducible refine ws_next ?_ | with_reducible refine ws_if ?_ | with_reducible refine ws_par ?_
  | with_reducible refine wt_test ?_ | with_reducible refine wt_b ?_ | with_reducible refine wt_not ?_ | with_reducible refine wt_and ?_ | with_reducible refine wt_or ?_
  | with_reducible refine wg_name ?_ | with_reducible refine wg_tup2 ?_ | with_reducible refine wg_tup3 ?_
  | with_reducible refine wr_i0 ?_ | with_reducible refine wr_b0 ?_ | with_reducible refine wr_eqI ?_ | with_reducible refine wr_neI ?_ | with_reducible refine wr_i ?_ ?_
  | ((with_reducible apply wr_ixT); focus exact rfl)
  | with_reducible refine wc_abs ?_ | with_reducible refine wc_lenM ?_ | with_reducible refine wc_lenT ?_ | with_reducible refine wc_max2 ?_ | with_reducible refine wc_min2 ?_ | with_reducible refine wc_intB ?_
  | with_reducible refine ⟨_, rfl, ?_⟩ | with_reducible refine ⟨_, _, rfl, ?_⟩
  | with_reducible refine ⟨[_], map1, len1, ?_⟩ | with_reducible refine ⟨[_, _], map2, len2, ?_⟩ | with_reducible refine ⟨[_, _, _], map3, len3, ?_⟩ | with_reducible refine ⟨[_, _, _, _], map4, len4, ?_⟩ | with_reducible refine ⟨[], map0, len0, ?_⟩
  | with_reducible refine wx_lcT ?_ | with_reducible refine wx_lcT2 ?_ | with_reducible refine wx_lcL ?_ | with_reducible refine wx_lcR ?_ | with_reducible refine wx_lcE ?_ | with_reducible refine wx_cut2 ?_ | with_reducible refine wx_cut_2 ?_ | with_reducible refine wt_yes ?_
  | with_reducible refine ws_forT ?_ | with_reducible refine ws_forL ?_ | with_reducible refine ws_forV ?_ | with_reducible refine ws_forR ?_ | with_reducible refine ws_forE ?_ | with_reducible refine ws_forZ ?_
  | with_reducible refine wr_inN ?_ | with_reducible refine wr_inN2 ?_ | ((with_reducible apply wr_ixT); focus exact tie_at (by assumption)) | ((with_reducible apply wr_ixT); focus exact pat_at (by assumption))
  | with_reducible refine wc_tupZ ?_ | with_reducible refine wc_lenZ ?_ | with_reducible refine wc_allZ ?_ | with_reducible refine wc_sumZ ?_ | with_reducible refine wc_sortTN ?_ | with_reducible refine wc_sortLK ?_
  | ((with_reducible refine wr_catN ?_ ?_); focus (first | omega | skip)) | ((with_reducible refine wr_catN1 ?_ ?_); focus (first | omega | skip)) | ((with_reducible refine wr_catN2 ?_ ?_); focus (first | omega | skip))
  | with_reducible refine ⟨_, _, _, rfl, ?_⟩ | with_reducible refine ⟨_, _, _, _, rfl, ?_⟩
  | with_reducible refine wr_catT (xs := [_, _]) (ys := [_]) cat21 ?_ | with_reducible refine wr_catT (xs := [_, _]) (ys := [_, _]) cat22 ?_
  | with_reducible refine ⟨rfl, ?_⟩
  | assumption
  | fail)))

theorem ok__law_run_tree (T : Txt K mg)  : FnOk P w K mg base CX0 1 T._law_run_tree.f T._law_run_tree.fd ["_law_tree", "_law_answers"] (spD P w K pr__law_run_tree) := by
  refine fnD T._law_run_tree.F sc__law_run_tree len__law_run_tree (fun cdv Ar outer s H E hr => ⟨_, (pss_cons (ps_set (i := 2) sc__law_run_tree.nd rfl (by first | exact Or.inl rfl | exact Or.inr rfl) (pe_lst pa_nil))
    (pss_cons (ps_set (i := 3) sc__law_run_tree.nd rfl (by first | exact Or.inl rfl | exact Or.inr rfl) (pe_op op_add (pe_un un_neg pe_int) (pe_callTy (show CallR _ _ rInt1 from call_int1) (by rfl) T.int PyProof.Rows.boot_int (pa_cons (pe_cmpR op_gt (pe_callB (show CallR _ _ (rLen K) from call_len_seq) (by rfl) T.len PySem.boot_len (pa_cons (pv 0) pa_nil)) pe_int (nomark _)) pa_nil))))
    (pss_cons (ps_while PassesOwn.never (pt_cmpR op_ge (pv 3) pe_int (nomark _))
    (pss_cons (ps_asg (pe_ix (show IxR _ (rIxT K) from ix_tup) (pv 0) (pv 3) (fun _ _ => rfl)) (show PG _ _ (gTup K 3 _) from pg_tup (n := 3) rfl (pgs_cons (pg_name (i := 4) sc__law_run_tree.nd rfl (by first | exact Or.inl rfl | exact Or.inr rfl)) (pgs_cons (pg_name (i := 5) sc__law_run_tree.nd rfl (by first | exact Or.inl rfl | exact Or.inr rfl)) (pgs_cons (pg_name (i := 6) sc__law_run_tree.nd rfl (by first | exact Or.inl rfl | exact Or.inr rfl)) pgs_nil)))))
     (pss_cons (ps_expr (show PE _ _ (tBM K "list" rAppend _ _) from pe_bm PySem.F.plainAttrs_list PySem.F.slot_list_append PySem.F.type_list_append mt_append (pv 2) (pa_cons (pe_tup (pa_cons (pv 4) (pa_cons (pe_ix (show IxR _ (rIxT K) from ix_tup) (pv 1) (pv 4) (fun _ _ => rfl)) pa_nil))) pa_nil)))
     (pss_one (ps_set (i := 3) sc__law_run_tree.nd rfl (by first | exact Or.inl rfl | exact Or.inr rfl) (pe_ix (show IxR _ (rIxL K) from ix_list) (pe_lst (pa_cons (pv 6) (pa_cons (pv 5) pa_nil))) (pe_callTy (show CallR _ _ rInt1 from call_int1) (by rfl) T.int PyProof.Rows.boot_int (pa_cons (pe_ix (show IxR _ (rIxT K) from ix_tup) (pv 1) (pv 4) (fun _ _ => rfl)) pa_nil)) (fun _ _ => rfl)))))))
    (pss_one (ps_ret (pe_callTy (show CallR _ _ (rTupOf K) from call_tuple_of) (by rfl) T.tuple PyProof.Rows.boot_tuple (pa_cons (pv 2) pa_nil))))))), fun as m W h => ?_⟩)
  try dsimp only [cxOf, Cx.nox, Cx.wish]
  obtain ⟨nodes, a, rfl, rfl, hl, hf, k⟩ := h
  walk_at "dl"
  intro rn
  walk_at "dl"
  refine ws_while (fun q S' => ∃ (j : Int) (acc : List (Nat × Bool)) (fu : Nat) (o4 o5 o6 : Option Arg), q = fu ∧ acc ++ Km.runF nodes (ansL a) fu j = runT nodes a ∧ (j = -1 ∨ ∃ i : Nat, j = (i : Int) ∧ i < nodes.length ∧ nodes.length ≤ i + fu) ∧
    S' = ⟨[some (.d (.tup (nodes.map dNode))), some (.d (dBs a)), some (.a rn), some (.d (.int j)), o4, o5, o6], [(rn, .lst ((acc.map dP).map Arg.d), true)]⟩) nodes.length
    ⟨(if nodes = [] then -1 else 0), [], nodes.length, none, none, none, rfl, rfl, ?_, ?_⟩ ?_
  · by_cases h0 : nodes = []
    · rw [if_pos h0]; exact .inl rfl
    · rw [if_neg h0]
      exact .inr ⟨0, rfl, List.length_pos_iff.mpr h0, by omega⟩
  · have e : (-1 + if decide (0 < (nodes.length : Int)) = true then (1 : Int) else 0) = if nodes = [] then -1 else 0 := by
      by_cases h0 : nodes = []
      · rw [if_pos h0, h0]; rfl
      · rw [if_neg h0, decide_eq_true (by have := List.length_pos_iff.mpr h0; omega)]; rfl
    rw [← e]
    rfl
  rintro q S' ⟨j, acc, fu, o4, o5, o6, rfl, he, hj, rfl⟩
  walk_at "dl"
  refine ⟨fun hc => ?_, fun hc => ?_⟩
  · have hj0 : 0 ≤ j := of_decide_eq_true hc
    rcases hj with rfl | ⟨i, rfl, hi, hfu⟩
    · exact absurd hj0 (by decide)
    obtain ⟨⟨t, y, n⟩, hnode⟩ : ∃ x, nodes[i]? = some x := ⟨nodes[i], List.getElem?_eq_getElem hi⟩
    have ht := hf.lt i t y n hnode
    obtain ⟨fu', rfl⟩ : ∃ f, q = f + 1 := ⟨q - 1, by omega⟩
    rw [Km.runF_step hnode] at he
    have hacc : (acc.map dP).length < 1000000 := by
      have h1 := congrArg List.length he
      rw [List.length_append] at h1
      have h2 := runF_len nodes (ansL a) nodes.length (if nodes = [] then -1 else 0)
      unfold runT at h1
      rw [List.length_map]
      omega
    have hat : atI (a.map D.bl) (t : Int) = some (.bl (ansL a t)) := atI_nat (map_at false D.bl ht)
    walk_at "dl"
    refine wr_ixT (atI_nat (j := i) (v := dNode (t, y, n)) (by rw [List.getElem?_map, hnode]; rfl)) ?_
    walk_at "dl"
    refine wx_app ?_
    walk_at "dl"
    refine ⟨_, 0, _, _, rfl, rfl, ?_⟩
    walk_at "dl"
    refine wr_ixT hat ?_
    walk_at "dl"
    refine ⟨_, _, rfl, rfl, by rw [List.length_map]; exact hacc, ?_⟩
    walk_at "dl"
    refine wx_lst (wa_cons ?_)
    walk_at "dl"
    refine ⟨len_le rfl, fun q2 => ?_⟩
    walk_at "dl"
    refine wr_ixT hat ?_
    walk_at "dl"
    have hnext : (if ansL a t = true then y else n) = -1 ∨ ∃ k : Nat, (if ansL a t = true then y else n) = (k : Int) ∧ k < nodes.length ∧ nodes.length ≤ k + fu' := by
      have hy := hf.y i t y n hnode
      have hn := hf.n i t y n hnode
      split
      · exact hy.imp id fun ⟨k, e, h1, h2⟩ => ⟨k, e, h2, by omega⟩
      · exact hn.imp id fun ⟨k, e, h1, h2⟩ => ⟨k, e, h2, by omega⟩
    refine wr_ixZ (x := .d (.int (if ansL a t = true then y else n))) ?_ ?_
    · cases ansL a t <;> rfl
    walk_at "dl"
    refine ⟨fu', _, by omega, Le.refl _, (if ansL a t = true then y else n), acc ++ [(t, ansL a t)], fu', some (.d (dN t)), some (.d (.int y)), some (.d (.int n)), rfl, by rw [List.append_assoc]; exact he, hnext, ?_⟩
    rw [List.map_append, List.map_append]
    rfl
  · have hj0 : ¬ 0 ≤ j := of_decide_eq_false hc
    rcases hj with rfl | ⟨i, rfl, hi, hfu⟩
    · rw [Km.runF_end, List.append_nil] at he
      subst he
      walk_at "dl"
      refine wc_tupL (n := 0) rfl ?_
      exact ⟨_, k, List.nil_sublist _⟩
    · exact absurd (by omega) hj0
/-! ### what a run keeps -/
def pr__law_kept : Prom := fun as m U => ∃ (W : Web) (run : List (Nat × Bool)), as = [.d (dW W), .d (dKn run)] ∧ m = [] ∧ run.length ≤ 1000 ∧ (∀ p ∈ run, p.1 < W.n) ∧ U (.d (dN (Km.keptOf W run))) []
theorem use__law_kept {U : Arg → List Ob → Prop} {W : Web} {run : List (Nat × Bool)} (hl : run.length ≤ 1000) (ht : ∀ p ∈ run, p.1 < W.n) (k : U (.d (dN (Km.keptOf W run))) []) : pr__law_kept [.d (dW W), .d (dKn run)] [] U := ⟨W, run, rfl, rfl, hl, ht, k⟩
theorem len__law_kept (as m W) (h : pr__law_kept as m W) : as.length = 2 := by obtain ⟨_, _, rfl, _⟩ := h; rfl
theorem sum_cast : ∀ l : List Nat, (l.map fun n : Nat => (n : Int)).sum = ((l.sum : Nat) : Int)
  | [] => rfl
  | n :: l => by
    rw [List.map_cons, List.sum_cons, List.sum_cons, sum_cast l]
    omega
set_option hygiene false in
local macro_rules | `(tactic| walk_at "dl") => `(tactic| (repeat' (first
  | with_reducible refine wx_op ?_ | with_reducible refine wx_int ?_ | with_reducible refine wx_bl ?_ | with_reducible refine wx_non ?_ | with_reducible refine wa_cons ?_ | with_reducible refine wa_nil ?_
  | ((with_reducible apply wx_var); focus exact rfl)
  | with_reducible refine wx_tup ?_ | with_reducible refine wx_cb ?_ | with_reducible refine wx_negC ?_ | with_reducible refine wx_lst0 ?_
  | with_reducible refine ws_ret ?_ | with_reducible refine ws_seq ?_ | with_reducible refine ws_asg ?_ | with_reducible refine ws_drop ?_ | with_reducible refine ws_next ?_ | with_reducible refine ws_if ?_ | with_reducible refine ws_par ?_
  | with_reducible refine wt_test ?_ | with_reducible refine wt_b ?_ | with_reducible refine wt_not ?_ | with_reducible refine wt_and ?_ | with_reducible refine wt_or ?_
  | with_reducible refine wg_name ?_ | with_reducible refine wg_tup2 ?_ | with_reducible refine wg_tup3 ?_
  | with_reducible refine wr_i0 ?_ | with_reducible refine wr_b0 ?_ | with_reducible refine wr_eqI ?_ | with_reducible refine wr_neI ?_ | with_reducible refine wr_i ?_ ?_
  | ((with_reducible apply wr_ixT); focus exact rfl)
  | with_reducible refine wc_abs ?_ | with_reducible refine wc_lenM ?_ | with_reducible refine wc_lenT ?_ | with_reducible refine wc_max2 ?_ | with_reducible refine wc_min2 ?_ | with_reducible refine wc_intB ?_
  | with_reducible refine ⟨_, rfl, ?_⟩ | with_reducible refine ⟨_, _, rfl, ?_⟩
  | with_reducible refine ⟨[_], map1, len1, ?_⟩ | with_reducible refine ⟨[_, _], map2, len2, ?_⟩ | with_reducible refine ⟨[_, _, _], map3, len3, ?_⟩ | with_reducible refine ⟨[_, _, _, _], map4, len4, ?_⟩ | with_reducible refine ⟨[], map0, len0, ?_⟩
  | with_reducible refine wx_lcT ?_ | with_reducible refine wx_lcT2 ?_ | with_reducible refine wx_lcL ?_ | with_reducible refine wx_lcR ?_ | with_reducible refine wx_lcE ?_ | with_reducible refine wx_cut2 ?_ | with_reducible refine wx_cut_2 ?_ | with_reducible refine wt_yes ?_
  | with_reducible refine ws_forT ?_ | with_reducible refine ws_forL ?_ | with_reducible refine ws_forV ?_ | with_reducible refine ws_forR ?_ | with_reducible refine ws_forE ?_ | with_reducible refine ws_forZ ?_
  | with_reducible refine wr_inN ?_ | with_reducible refine wr_inN2 ?_ | ((with_reducible apply wr_ixT); focus exact tie_at (by assumption)) | ((with_reducible apply wr_ixT); focus exact pat_at (by assumption))
  | with_reducible refine wc_tupZ ?_ | with_reducible refine wc_lenZ ?_ | with_reducible refine wc_allZ ?_ | with_reducible refine wc_sumZ ?_ | with_reducible refine wc_sortTN ?_ | with_reducible refine wc_sortLK ?_
  | ((with_reducible refine wr_catN ?_ ?_); focus (first | omega | skip)) | ((with_reducible refine wr_catN1 ?_ ?_); focus (first | omega | skip)) | ((with_reducible refine wr_catN2 ?_ ?_); focus (first | omega | skip))
  | with_reducible refine ⟨_, _, _, rfl, ?_⟩ | with_reducible refine ⟨_, _, _, _, rfl, ?_⟩
  | with_reducible refine wr_catT (xs := [_, _]) (ys := [_]) cat21 ?_ | with_reducible refine wr_catT (xs := [_, _]) (ys := [_, _]) cat22 ?_
  | with_reducible refine ⟨rfl, ?_⟩
  | assumption
  | fail)))

theorem ok__law_kept (T : Txt K mg)  : FnOk P w K mg base CX0 1 T._law_kept.f T._law_kept.fd ["_law_web_here", "_law_run"] (spD P w K pr__law_kept) := by
  refine fnD T._law_kept.F sc__law_kept len__law_kept (fun cdv Ar outer s H E hr => ⟨_, (pss_one (ps_ret (pe_callB (show CallR _ _ (rSum K) from cr_sum rfl) (by rfl) T.sum PyProof.Rows.boot_sum (pa_cons (pe_lc (own := [("_law_tie", 2), ("_law_truth", 3)]) rfl sc__law_kept.nd (show PI _ _ _ (iTup K _) from pi_tup (pv 1)) (blkOk_by (N := N__law_kept) (sc := defScope s__law_kept) (by decide +kernel)) (fun _ _ _ _ _ =>  (show PG _ _ (gTup K 2 _) from pg_tup (n := 2) rfl (pgs_cons (pg_name (i := 2) sc__law_kept.nd rfl (by first | exact Or.inl rfl | exact Or.inr rfl)) (pgs_cons (pg_name (i := 3) sc__law_kept.nd rfl (by first | exact Or.inl rfl | exact Or.inr rfl)) pgs_nil)))) (fun _ _ _ _ _ =>  pts_one (pt_val (pv 3))) (fun _ _ _ _ _ =>  (pe_ix (show IxR _ (rIxT K) from ix_tup) (pe_ix (show IxR _ (rIxT K) from ix_tup) (pe_ix (show IxR _ (rIxT K) from ix_tup) (pv 0) pe_int (fun _ _ => rfl)) (pv 2) (fun _ _ => rfl)) pe_int (fun _ _ => rfl)))) pa_nil)))), fun as m W h => ?_⟩)
  try dsimp only [cxOf, Cx.nox, Cx.wish]
  obtain ⟨W', run, rfl, rfl, hl, hlt, k⟩ := h
  walk_at "dl"
  refine ⟨Nat × Bool, (0, false), run, fun p => dN p.1, fun p => .bl p.2, rfl, ⟨by decide, by decide⟩, by omega, fun p => p.2, fun p => .d (dN (W'.tie p.1).w), fun p ob hp => ?_, fun p => ?_⟩
  · have ht := hlt p hp
    walk_at "dl"
    refine ⟨fun _ => ?_, fun _ => List.prefix_refl _⟩
    walk_at "dl"
    exact List.prefix_refl _
  · have e : (run.filter fun p => p.2).map (fun p => Arg.d (dN (W'.tie p.1).w)) = ((((run.filter (·.2)).map fun p => (W'.tie p.1).w).map fun n : Nat => (n : Int))).map fun x => Arg.d (.int x) := by
      rw [List.map_map, List.map_map]
      rfl
    rw [e]
    walk_at "dl"
    rw [sum_cast]
    exact ⟨_, k, List.nil_sublist _⟩
/-! ### the ties' answers -/
def tieAns (W : Web) (G : Groups) (a : List Bool) : List Bool := (List.range W.n).map fun t => a.getD (Km.groupOf G t) false
def pr__law_tie_answers : Prom := fun as m U => ∃ (W : Web) (G : Groups) (a : List Bool), as = [.d (dW W), .d (dG G), .d (dBs a)] ∧ m = [] ∧ WebOk W ∧ GrOk W G ∧ a.length = G.length ∧ U (.d (dBs (tieAns W G a))) []
theorem use__law_tie_answers {U : Arg → List Ob → Prop} {W : Web} {G : Groups} {a : List Bool} (hW : WebOk W) (hG : GrOk W G) (ha : a.length = G.length) (k : U (.d (dBs (tieAns W G a))) []) : pr__law_tie_answers [.d (dW W), .d (dG G), .d (dBs a)] [] U := ⟨W, G, a, rfl, rfl, hW, hG, ha, k⟩
theorem len__law_tie_answers (as m W) (h : pr__law_tie_answers as m W) : as.length = 3 := by obtain ⟨_, _, _, rfl, _⟩ := h; rfl
set_option hygiene false in
local macro_rules | `(tactic| walk_at "dl") => `(tactic| (repeat' (first
  | with_reducible refine wx_op ?_ | with_reducible refine wx_int ?_ | with_reducible refine wx_bl ?_ | with_reducible refine wx_non ?_ | with_reducible refine wa_cons ?_ | with_reducible refine wa_nil ?_
  | ((with_reducible apply wx_var); focus exact rfl)
  | with_reducible refine wx_tup ?_ | with_reducible refine wx_cb ?_ | with_reducible refine wx_negC ?_ | with_reducible refine wx_lst0 ?_
  | with_reducible refine ws_ret ?_ | with_reducible refine ws_seq ?_ | with_reducible refine ws_asg ?_ | with_reducible refine ws_drop ?_ | with_reducible refine ws_next ?_ | with_reducible refine ws_if ?_ | with_reducible refine ws_par ?_
  | with_reducible refine wt_test ?_ | with_reducible refine wt_b ?_ | with_reducible refine wt_not ?_ | with_reducible refine wt_and ?_ | with_reducible refine wt_or ?_
  | with_reducible refine wg_name ?_ | with_reducible refine wg_tup2 ?_ | with_reducible refine wg_tup3 ?_
  | with_reducible refine wr_i0 ?_ | with_reducible refine wr_b0 ?_ | with_reducible refine wr_eqI ?_ | with_reducible refine wr_neI ?_ | with_reducible refine wr_i ?_ ?_
  | ((with_reducible apply wr_ixT); focus exact rfl)
  | with_reducible refine wc_abs ?_ | with_reducible refine wc_lenM ?_ | with_reducible refine wc_lenT ?_ | with_reducible refine wc_max2 ?_ | with_reducible refine wc_min2 ?_ | with_reducible refine wc_intB ?_
  | with_reducible refine ⟨_, rfl, ?_⟩ | with_reducible refine ⟨_, _, rfl, ?_⟩
  | with_reducible refine ⟨[_], map1, len1, ?_⟩ | with_reducible refine ⟨[_, _], map2, len2, ?_⟩ | with_reducible refine ⟨[_, _, _], map3, len3, ?_⟩ | with_reducible refine ⟨[_, _, _, _], map4, len4, ?_⟩ | with_reducible refine ⟨[], map0, len0, ?_⟩
  | with_reducible refine wx_lcT ?_ | with_reducible refine wx_lcT2 ?_ | with_reducible refine wx_lcL ?_ | with_reducible refine wx_lcR ?_ | with_reducible refine wx_lcE ?_ | with_reducible refine wx_cut2 ?_ | with_reducible refine wx_cut_2 ?_ | with_reducible refine wt_yes ?_
  | with_reducible refine ws_forT ?_ | with_reducible refine ws_forL ?_ | with_reducible refine ws_forV ?_ | with_reducible refine ws_forR ?_ | with_reducible refine ws_forE ?_ | with_reducible refine ws_forZ ?_
  | with_reducible refine wr_inN ?_ | with_reducible refine wr_inN2 ?_ | ((with_reducible apply wr_ixT); focus exact tie_at (by assumption)) | ((with_reducible apply wr_ixT); focus exact pat_at (by assumption))
  | with_reducible refine wc_tupZ ?_ | with_reducible refine wc_lenZ ?_ | with_reducible refine wc_allZ ?_ | with_reducible refine wc_sumZ ?_ | with_reducible refine wc_sortTN ?_ | with_reducible refine wc_sortLK ?_
  | ((with_reducible refine wr_catN ?_ ?_); focus (first | omega | skip)) | ((with_reducible refine wr_catN1 ?_ ?_); focus (first | omega | skip)) | ((with_reducible refine wr_catN2 ?_ ?_); focus (first | omega | skip))
  | with_reducible refine ⟨_, _, _, rfl, ?_⟩ | with_reducible refine ⟨_, _, _, _, rfl, ?_⟩
  | with_reducible refine wr_catT (xs := [_, _]) (ys := [_]) cat21 ?_ | with_reducible refine wr_catT (xs := [_, _]) (ys := [_, _]) cat22 ?_
  | with_reducible refine ⟨rfl, ?_⟩
  | assumption
  | with_reducible refine wx_callP (A := pr__law_group_of) ?_ | with_reducible refine use__law_group_of ?_ ?_ ?_
  | fail)))

theorem ok__law_tie_answers (T : Txt K mg) (G_law_group_of : FnOk P w K mg base CX0 1 T._law_group_of.f T._law_group_of.fd ["_law_groups", "_law_tie"] (spD P w K pr__law_group_of)) : FnOk P w K mg base CX0 2 T._law_tie_answers.f T._law_tie_answers.fd ["_law_web_here", "_law_groups", "_law_answers"] (spD P w K pr__law_tie_answers) := by
  refine fnD T._law_tie_answers.F sc__law_tie_answers len__law_tie_answers (fun cdv Ar outer s H E hr => ⟨_, (pss_one (ps_ret (pe_callTy (show CallR _ _ (rTupOf K) from call_tuple_of) (by rfl) T.tuple PyProof.Rows.boot_tuple (pa_cons (pe_lc (own := [("_law_tie", 3)]) rfl sc__law_tie_answers.nd (pi_range1 rfl T.range (pa_cons (pe_callB (show CallR _ _ (rLen K) from call_len_seq) (by rfl) T.len PySem.boot_len (pa_cons (pe_ix (show IxR _ (rIxT K) from ix_tup) (pv 0) pe_int (fun _ _ => rfl)) pa_nil)) pa_nil)) (blkOk_by (N := N__law_tie_answers) (sc := defScope s__law_tie_answers) (by decide +kernel)) (fun _ _ _ _ _ =>  (pg_name (i := 3) sc__law_tie_answers.nd rfl (by first | exact Or.inl rfl | exact Or.inr rfl))) (fun _ _ _ _ _ =>  pts_nil) (fun _ _ _ _ _ =>  (pe_ix (show IxR _ (rIxT K) from ix_tup) (pv 2) (pe_call G_law_group_of (hr.mono (by decide)) rfl T._law_group_of.g T._law_group_of.F.kp T._law_group_of.b .nil pass0 (pa_cons (pv 1) (pa_cons (pv 3) pa_nil))) (fun _ _ => rfl)))) pa_nil)))), fun as m W h => ?_⟩)
  try dsimp only [cxOf, Cx.nox, Cx.wish]
  obtain ⟨W', G, a, rfl, rfl, hW, hG, ha, k⟩ := h
  have h5 := web5 hW
  have hl := hG.few
  walk_at "dl"
  refine ⟨by decide, show W'.n ≤ 1000000 by omega, fun _ => true, fun t => .d (.bl (a.getD (Km.groupOf G t) false)), fun t ob ht => ?_, fun p => ?_⟩
  · have hg := hG.has t ht
    walk_at "dl"
    refine ⟨fun _ => ?_, fun h => nomatch h⟩
    walk_at "dl"
    refine wr_ixT (atI_nat (map_at false D.bl (by rw [ha]; exact hg))) ?_
    exact ⟨rfl, List.prefix_refl _⟩
  · have e : ((List.range W'.ties.length).filter fun _ => true).map (fun t => Arg.d (.bl (a.getD (Km.groupOf G t) false))) = ((tieAns W' G a).map D.bl).map Arg.d := by
      rw [List.filter_eq_self.mpr (fun _ _ => rfl)]
      unfold tieAns
      rw [List.map_map, List.map_map]
      rfl
    rw [e]
    walk_at "dl"
    exact ⟨_, k, List.nil_sublist _⟩
end
end Dl

/-! a tree's worth, together -/
namespace Dl
open PySem PySem.Spec L2
open Km (Web Stand Wide Known Groups WebOk Node GroupsOk TreeOk)
theorem GrOk.of {W : Web} {G : Groups} (hW : WebOk W) (h : GroupsOk W G) : GrOk W G := ⟨by have := h.few; have := web5 hW; omega, h.has⟩
theorem runF_congr {nodes : List Node} {f g : Nat → Bool} (h : ∀ (i t : Nat) (y n : Int), nodes[i]? = some (t, y, n) → f t = g t) : ∀ (k : Nat) (j : Int), Km.runF nodes f k j = Km.runF nodes g k j
  | 0, _ => rfl
  | k + 1, j => by
    unfold Km.runF
    split
    · rfl
    · cases q : nodes[j.toNat]? with
      | none => rfl
      | some x =>
        obtain ⟨t, y, n⟩ := x
        show (t, f t) :: _ = (t, g t) :: _
        rw [h _ t y n q, runF_congr h k]
theorem runF_mem {nodes : List Node} {f : Nat → Bool} {N : Nat} (h : ∀ (i t : Nat) (y n : Int), nodes[i]? = some (t, y, n) → t < N) : ∀ (k : Nat) (j : Int), ∀ p ∈ Km.runF nodes f k j, p.1 < N
  | 0, _, p, hp => absurd hp List.not_mem_nil
  | k + 1, j, p, hp => by
    unfold Km.runF at hp
    split at hp
    · exact absurd hp List.not_mem_nil
    · cases q : nodes[j.toNat]? with
      | none => rw [q] at hp; exact absurd hp List.not_mem_nil
      | some x =>
        obtain ⟨t, y, n⟩ := x
        rw [q] at hp
        rcases List.mem_cons.mp hp with rfl | hp
        · exact h _ t y n q
        · exact runF_mem h k _ p hp
theorem kept_le {W : Web} (hW : WebOk W) : ∀ run : List (Nat × Bool), Km.keptOf W run ≤ run.length * 1000
  | [] => Nat.zero_le _
  | (t, b) :: r => by
    rw [Km.keptOf_cons, List.length_cons]
    have h1 := (hW.ch t).2
    have h2 := kept_le hW r
    split <;> omega
theorem tree_fit {W : Web} {nodes : List Node} {sts : List Stand} (T : TreeOk W nodes sts) : Fit nodes W.n := by
  have st : ∀ (i t : Nat) (y n : Int), nodes[i]? = some (t, y, n) → ∃ s, sts[i]? = some s := fun i t y n h => by
    have hi := (List.getElem?_eq_some_iff.mp h).1
    rw [T.len] at hi
    exact ⟨sts[i], List.getElem?_eq_getElem hi⟩
  refine ⟨fun i t y n h => ?_, fun i t y n h => ?_, fun i t y n h => ?_⟩ <;> obtain ⟨s, hs⟩ := st i t y n h <;> obtain ⟨h1, h2, h3⟩ := T.node i t y n s h hs
  · exact (Km.mem_askable.mp h1).1
  · rcases h2 with q | ⟨k, e, a, b, _⟩
    · exact .inl q
    · exact .inr ⟨k, e, a, by rw [T.len]; exact b⟩
  · rcases h3 with q | ⟨k, e, a, b, _⟩
    · exact .inl q
    · exact .inr ⟨k, e, a, by rw [T.len]; exact b⟩
theorem tieAns_len (W : Web) (G : Groups) (a : List Bool) : (tieAns W G a).length = W.n := by
  unfold tieAns
  rw [List.length_map, List.length_range]
theorem tieAns_at {W : Web} {G : Groups} {a : List Bool} {t : Nat} (h : t < W.n) : ansL (tieAns W G a) t = Km.ansOf G a t := by
  unfold ansL tieAns Km.ansOf
  rw [List.getD_eq_getElem?_getD, List.getElem?_map, List.getElem?_range h]
  rfl
/-- what the tree keeps at a row of answers -/
def keepAt (W : Web) (G : Groups) (nodes : List Node) (a : List Bool) : Nat := Km.keptOf W (Km.runF nodes (Km.ansOf G a) nodes.length (if nodes = [] then -1 else 0))
theorem keep_run {W : Web} {G : Groups} {nodes : List Node} (F : Fit nodes W.n) (a : List Bool) : Km.keptOf W (runT nodes (tieAns W G a)) = keepAt W G nodes a := by
  unfold keepAt runT
  rw [runF_congr (g := Km.ansOf G a) fun i t y n h => tieAns_at (F.lt i t y n h)]
theorem keep_le {W : Web} (hW : WebOk W) {G : Groups} {nodes : List Node} (h : nodes.length ≤ 100) (a : List Bool) : keepAt W G nodes a ≤ 100000 := by
  have h1 := kept_le hW (Km.runF nodes (Km.ansOf G a) nodes.length (if nodes = [] then -1 else 0))
  have h2 := runF_len nodes (Km.ansOf G a) nodes.length (if nodes = [] then -1 else 0)
  unfold keepAt
  omega
theorem sum_snoc {α : Type} {l : List α} {i : Nat} {a : α} (f : α → Rat) (h : l[i]? = some a) : ((l.take (i + 1)).map f).sum = ((l.take i).map f).sum + f a := by
  rw [take_snoc f h, Km.sum_append, List.sum_cons, List.sum_nil]
  grind
theorem wt_step (c : Nat → Rat) (k : Nat) (a : List Bool) : Km.wt c (k + 1) a = Km.wt c k a * (if a.getD k false then c k else 1 - c k) := rfl
section
variable {P : Program} {w : World} {K : PySem.W.Frag} {mg : Str → Option Value} {base : Heap}
def pr__law_together : Prom := fun as m U => ∃ (W : Web) (G : Groups) (nodes : List Node) (sts : List Stand), as = [.d (dW W), .d (dG G), .d (.tup (nodes.map dNode))] ∧ m = [] ∧ WebOk W ∧ GroupsOk W G ∧ TreeOk W nodes sts ∧ nodes.length ≤ 100 ∧
  ∀ z : Km.Frc, Ok z → Km.val z ≤ Km.val (Km.vW W G ([], [], [])) → U (.d (dF z)) []
theorem use__law_together {U : Arg → List Ob → Prop} {W : Web} {G : Groups} {nodes : List Node} {sts : List Stand} (hW : WebOk W) (hG : GroupsOk W G) (hT : TreeOk W nodes sts) (hl : nodes.length ≤ 100) (k : ∀ z : Km.Frc, Ok z → Km.val z ≤ Km.val (Km.vW W G ([], [], [])) → U (.d (dF z)) []) :
    pr__law_together [.d (dW W), .d (dG G), .d (.tup (nodes.map dNode))] [] U := ⟨W, G, nodes, sts, rfl, rfl, hW, hG, hT, hl, k⟩
theorem len__law_together (as m W) (h : pr__law_together as m W) : as.length = 3 := by obtain ⟨_, _, _, _, rfl, _⟩ := h; rfl
set_option hygiene false in
local macro_rules | `(tactic| walk_at "dl") => `(tactic| (repeat' (first
  | with_reducible refine wx_op ?_ | with_reducible refine wx_int ?_ | with_reducible refine wx_bl ?_ | with_reducible refine wx_non ?_ | with_reducible refine wa_cons ?_ | with_reducible refine wa_nil ?_
  | ((with_reducible apply wx_var); focus exact rfl)
  | with_reducible refine wx_tup ?_ | with_reducible refine wx_cb ?_ | with_reducible refine wx_negC ?_ | with_reducible refine wx_lst0 ?_
  | with_reducible refine ws_ret ?_ | with_reducible refine ws_seq ?_ | with_reducible refine ws_asg ?_ | with_reducible refine ws_drop ?_ | with_reducible refine ws_next ?_ | with_reducible refine ws_if ?_ | with_reducible refine ws_par ?_
  | with_reducible refine wt_test ?_ | with_reducible refine wt_b ?_ | with_reducible refine wt_not ?_ | with_reducible refine wt_and ?_ | with_reducible refine wt_or ?_
  | with_reducible refine wg_name ?_ | with_reducible refine wg_tup2 ?_ | with_reducible refine wg_tup3 ?_
  | with_reducible refine wr_i0 ?_ | with_reducible refine wr_b0 ?_ | with_reducible refine wr_eqI ?_ | with_reducible refine wr_neI ?_ | with_reducible refine wr_i ?_ ?_
  | ((with_reducible apply wr_ixT); focus exact rfl)
  | with_reducible refine wc_abs ?_ | with_reducible refine wc_lenM ?_ | with_reducible refine wc_lenT ?_ | with_reducible refine wc_max2 ?_ | with_reducible refine wc_min2 ?_ | with_reducible refine wc_intB ?_
  | with_reducible refine ⟨_, rfl, ?_⟩ | with_reducible refine ⟨_, _, rfl, ?_⟩
  | with_reducible refine ⟨[_], map1, len1, ?_⟩ | with_reducible refine ⟨[_, _], map2, len2, ?_⟩ | with_reducible refine ⟨[_, _, _], map3, len3, ?_⟩ | with_reducible refine ⟨[_, _, _, _], map4, len4, ?_⟩ | with_reducible refine ⟨[], map0, len0, ?_⟩
  | with_reducible refine wx_lcT ?_ | with_reducible refine wx_lcT2 ?_ | with_reducible refine wx_lcL ?_ | with_reducible refine wx_lcR ?_ | with_reducible refine wx_lcE ?_ | with_reducible refine wx_cut2 ?_ | with_reducible refine wx_cut_2 ?_ | with_reducible refine wt_yes ?_
  | with_reducible refine ws_forT ?_ | with_reducible refine ws_forL ?_ | with_reducible refine ws_forV ?_ | with_reducible refine ws_forR ?_ | with_reducible refine ws_forE ?_ | with_reducible refine ws_forZ ?_
  | with_reducible refine wr_inN ?_ | with_reducible refine wr_inN2 ?_ | ((with_reducible apply wr_ixT); focus exact tie_at (by assumption)) | ((with_reducible apply wr_ixT); focus exact pat_at (by assumption))
  | with_reducible refine wc_tupZ ?_ | with_reducible refine wc_lenZ ?_ | with_reducible refine wc_allZ ?_ | with_reducible refine wc_sumZ ?_ | with_reducible refine wc_sortTN ?_ | with_reducible refine wc_sortLK ?_
  | ((with_reducible refine wr_catN ?_ ?_); focus (first | omega | skip)) | ((with_reducible refine wr_catN1 ?_ ?_); focus (first | omega | skip)) | ((with_reducible refine wr_catN2 ?_ ?_); focus (first | omega | skip))
  | with_reducible refine ⟨_, _, _, rfl, ?_⟩ | with_reducible refine ⟨_, _, _, _, rfl, ?_⟩
  | with_reducible refine wr_catT (xs := [_, _]) (ys := [_]) cat21 ?_ | with_reducible refine wr_catT (xs := [_, _]) (ys := [_, _]) cat22 ?_
  | with_reducible refine ⟨rfl, ?_⟩
  | assumption
  | with_reducible refine wx_call0 (A := pr__law_all_answers) ?_ | with_reducible refine use__law_all_answers ?_ ?_
  | with_reducible refine wx_callP (A := pr__law_tie_answers) ?_ | with_reducible refine use__law_tie_answers ?_ ?_ ?_ ?_
  | with_reducible refine wx_callP (A := pr__law_run_tree) ?_ | with_reducible refine use__law_run_tree ?_ ?_ ?_
  | with_reducible refine wx_callP (A := pr__law_kept) ?_ | with_reducible refine use__law_kept ?_ ?_ ?_
  | with_reducible refine wx_callP (A := pr__law_times) ?_ | with_reducible refine use__law_times ?_ ?_ ?_
  | with_reducible refine wx_callP (A := pr__law_rest) ?_ | with_reducible refine use__law_rest ?_
  | with_reducible refine wx_callP (A := pr__law_plus) ?_ | with_reducible refine use__law_plus ?_ ?_ ?_
  | fail)))

theorem ok__law_together (T : Txt K mg) (G_law_all_answers : FnOk P w K mg base CX0 1 T._law_all_answers.f T._law_all_answers.fd ["_law_many"] (spD P w K pr__law_all_answers)) (G_law_kept : FnOk P w K mg base CX0 1 T._law_kept.f T._law_kept.fd ["_law_web_here", "_law_run"] (spD P w K pr__law_kept)) (G_law_plus : FnOk P w K mg base CX0 3 T._law_plus.f T._law_plus.fd ["_law_one", "_law_other"] (spD P w K pr__law_plus)) (G_law_rest : FnOk P w K mg base CX0 1 T._law_rest.f T._law_rest.fd ["_law_one"] (spD P w K pr__law_rest)) (G_law_run_tree : FnOk P w K mg base CX0 1 T._law_run_tree.f T._law_run_tree.fd ["_law_tree", "_law_answers"] (spD P w K pr__law_run_tree)) (G_law_tie_answers : FnOk P w K mg base CX0 2 T._law_tie_answers.f T._law_tie_answers.fd ["_law_web_here", "_law_groups", "_law_answers"] (spD P w K pr__law_tie_answers)) (G_law_times : FnOk P w K mg base CX0 3 T._law_times.f T._law_times.fd ["_law_one", "_law_other"] (spD P w K pr__law_times)) : FnOk P w K mg base CX0 4 T._law_together.f T._law_together.fd ["_law_web_here", "_law_groups", "_law_tree"] (spD P w K pr__law_together) := by
  refine fnD T._law_together.F sc__law_together len__law_together (fun cdv Ar outer s H E hr => ⟨_, (pss_cons (ps_set (i := 3) sc__law_together.nd rfl (by first | exact Or.inl rfl | exact Or.inr rfl) (pe_tup (pa_cons pe_int (pa_cons pe_int pa_nil))))
    (pss_cons (ps_for PassesOwn.never rfl (show PI _ _ _ (iList K _) from pi_list (pe_call G_law_all_answers (hr.mono (by decide)) rfl T._law_all_answers.g T._law_all_answers.F.kp T._law_all_answers.b .nil pass0 (pa_cons (pe_callB (show CallR _ _ (rLen K) from call_len_seq) (by rfl) T.len PySem.boot_len (pa_cons (pv 1) pa_nil)) pa_nil))) (pg_name (i := 4) sc__law_together.nd rfl (by first | exact Or.inl rfl | exact Or.inr rfl))
    (pss_cons (ps_set (i := 5) sc__law_together.nd rfl (by first | exact Or.inl rfl | exact Or.inr rfl) (pe_tup (pa_cons (pe_call G_law_kept (hr.mono (by decide)) rfl T._law_kept.g T._law_kept.F.kp T._law_kept.b .nil pass0 (pa_cons (pv 0) (pa_cons (pe_call G_law_run_tree (hr.mono (by decide)) rfl T._law_run_tree.g T._law_run_tree.F.kp T._law_run_tree.b .nil pass0 (pa_cons (pv 2) (pa_cons (pe_call G_law_tie_answers (hr.mono (by decide)) rfl T._law_tie_answers.g T._law_tie_answers.F.kp T._law_tie_answers.b .nil pass0 (pa_cons (pv 0) (pa_cons (pv 1) (pa_cons (pv 4) pa_nil)))) pa_nil))) pa_nil))) (pa_cons pe_int pa_nil))))
     (pss_cons (ps_for PassesOwn.never rfl (show PI _ _ _ (RZ.iZipA K _) from RZ.pi_zipA rfl T.zip (pa_cons (pv 1) (pa_cons (pv 4) pa_nil))) (show PG _ _ (gTup K 2 _) from pg_tup (n := 2) rfl (pgs_cons (pg_name (i := 6) sc__law_together.nd rfl (by first | exact Or.inl rfl | exact Or.inr rfl)) (pgs_cons (pg_name (i := 7) sc__law_together.nd rfl (by first | exact Or.inl rfl | exact Or.inr rfl)) pgs_nil)))
     (pss_cons (ps_set (i := 8) sc__law_together.nd rfl (by first | exact Or.inl rfl | exact Or.inr rfl) (pe_ix (show IxR _ (rIxT K) from ix_tup) (pe_ix (show IxR _ (rIxT K) from ix_tup) (pe_ix (show IxR _ (rIxT K) from ix_tup) (pv 0) pe_int (fun _ _ => rfl)) (pe_ix (show IxR _ (rIxT K) from ix_tup) (pv 6) pe_int (fun _ _ => rfl)) (fun _ _ => rfl)) pe_int (fun _ _ => rfl)))
      (pss_one (ps_set (i := 5) sc__law_together.nd rfl (by first | exact Or.inl rfl | exact Or.inr rfl) (pe_call G_law_times (hr.mono (by decide)) rfl T._law_times.g T._law_times.F.kp T._law_times.b .nil pass0 (pa_cons (pv 5) (pa_cons (pe_ix (show IxR _ (rIxL K) from ix_list) (pe_lst (pa_cons (pe_call G_law_rest (hr.mono (by decide)) rfl T._law_rest.g T._law_rest.F.kp T._law_rest.b .nil pass0 (pa_cons (pv 8) pa_nil)) (pa_cons (pv 8) pa_nil))) (pe_callTy (show CallR _ _ rInt1 from call_int1) (by rfl) T.int PyProof.Rows.boot_int (pa_cons (pv 7) pa_nil)) (fun _ _ => rfl)) pa_nil)))))))
     (pss_one (ps_set (i := 3) sc__law_together.nd rfl (by first | exact Or.inl rfl | exact Or.inr rfl) (pe_call G_law_plus (hr.mono (by decide)) rfl T._law_plus.g T._law_plus.F.kp T._law_plus.b .nil pass0 (pa_cons (pv 3) (pa_cons (pv 5) pa_nil))))))))
    (pss_one (ps_ret (pv 3))))), fun as m W h => ?_⟩)
  try dsimp only [cxOf, Cx.nox, Cx.wish]
  obtain ⟨W', G, nodes, sts, rfl, rfl, hW, hG, hT, hl, k⟩ := h
  have h5 := web5 hW
  have hg5 : G.length ≤ 5 := by have := hG.few; omega
  have hGr := GrOk.of hW hG
  have hF := tree_fit hT
  have hl2 : nodes.length ≤ 1000 := by omega
  have h32 := ans_few hg5
  walk_at "dl"
  intro p
  refine ⟨List Bool, [], Km.allAns G.length, encB, p, 0, true, rfl, rfl, fun i S' => ∃ (z : Km.Frc) (o4 o5 o6 o7 o8 : Option Arg), 0 < z.2 ∧ Km.Bd (1 + 53 * i) z ∧ Km.val z = (((Km.allAns G.length).take i).map fun a => (keepAt W' G nodes a : Rat) * Km.wt (Km.chQ W' G) G.length a).sum ∧
    S' = ⟨[some (.d (dW W')), some (.d (dG G)), some (.d (.tup (nodes.map dNode))), some (.d (dF z)), o4, o5, o6, o7, o8], [(p, .lst ((Km.allAns G.length).map encB), true)]⟩, ⟨(0, 1), none, none, none, none, none, by decide, ⟨by decide, by decide⟩, by rw [Km.val_int]; rfl, rfl⟩, ?_, ?_, ?_⟩
  · rintro i S' ⟨z, o4, o5, o6, o7, o8, hz, hb, hv, rfl⟩
    rfl
  · rintro i a S' ha ⟨z, o4, o5, o6, o7, o8, hz, hb, hv, rfl⟩
    have hal := Km.allAns_len _ a (List.mem_of_getElem? ha)
    have hi := (List.getElem?_eq_some_iff.mp ha).1
    have hF2 : Fit nodes (tieAns W' G a).length := by rw [tieAns_len]; exact hF
    have hrl := runF_len nodes (ansL (tieAns W' G a)) nodes.length (if nodes = [] then -1 else 0)
    have hkeep := keep_le hW (G := G) hl a
    walk_at "dl"
    · show (runT nodes (tieAns W' G a)).length ≤ 1000
      unfold runT
      omega
    · exact runF_mem hF.lt _ _
    rw [keep_run hF]
    walk_at "dl"
    refine ⟨List Nat, Bool, [], false, G, a, dNs, D.bl, rfl, hal.symm, fun j S' => ∃ (q : Km.Frc) (o6 o7 o8 : Option Arg), 0 < q.2 ∧ Km.Bd (17 + 7 * j) q ∧ Km.val q = (keepAt W' G nodes a : Rat) * Km.wt (Km.chQ W' G) j a ∧
      S' = ⟨[some (.d (dW W')), some (.d (dG G)), some (.d (.tup (nodes.map dNode))), some (.d (dF z)), some (.d (dBs a)), some (.d (dF q)), o6, o7, o8], [(p, .lst ((Km.allAns G.length).map encB), true)]⟩, ⟨((keepAt W' G nodes a : Nat), 1), _, _, _, Int.one_pos, ?_, ?_, rfl⟩, ?_, ?_⟩
    · exact Km.nat_bd (Nat.lt_of_le_of_lt hkeep (by decide)) (by decide)
    · rw [Km.val_int, Rat.intCast_natCast]
      show _ = _ * (1 : Rat)
      rw [Rat.mul_one]
    · rintro j g b S' hgj hbj ⟨q, o6, o7, o8, hq, hqb, hqv, rfl⟩
      have hjl := (List.getElem?_eq_some_iff.mp hgj).1
      have hgm : g ∈ G := List.mem_of_getElem? hgj
      have hne := hG.ne g hgm
      have htm : g.headD 0 ∈ g := by
        cases g with
        | nil => exact absurd rfl hne
        | cons x r => exact List.mem_cons_self
      have ht := hG.lt g hgm _ htm
      have hc : Km.chG W' G j = (W'.tie (g.headD 0)).c := by
        unfold Km.chG
        rw [List.getD_eq_getElem?_getD, hgj]
        rfl
      have hch := (hW.ch (g.headD 0)).1
      have hba : a.getD j false = b := by rw [List.getD_eq_getElem?_getD, hbj]; rfl
      have hnx : 0 < (if b = true then (W'.tie (g.headD 0)).c else Km.rest (W'.tie (g.headD 0)).c).2 ∧ Km.Bd 7 (if b = true then (W'.tie (g.headD 0)).c else Km.rest (W'.tie (g.headD 0)).c) ∧
          Km.val (if b = true then (W'.tie (g.headD 0)).c else Km.rest (W'.tie (g.headD 0)).c) = if a.getD j false then Km.chQ W' G j else 1 - Km.chQ W' G j := by
        rw [hba]
        unfold Km.chQ
        rw [hc]
        cases b with
        | true => exact ⟨hch.pos, hch.bd, rfl⟩
        | false => exact ⟨hch.rpos, hch.rbd, Km.val_rest hch.pos⟩
      obtain ⟨n1, n2, n3⟩ := hnx
      walk_at "dl"
      refine wr_ixT (atI_nat (j := 0) (v := dN (g.headD 0)) ?_) ?_
      · cases g with
        | nil => exact absurd rfl hne
        | cons x r => rfl
      walk_at "dl"
      refine wx_lst (wa_cons ?_)
      walk_at "dl"
      refine ⟨len_le rfl, fun q2 => ?_⟩
      walk_at "dl"
      refine wr_ixZ (x := .d (dF (if b = true then (W'.tie (g.headD 0)).c else Km.rest (W'.tie (g.headD 0)).c))) ?_ ?_
      · cases b <;> rfl
      walk_at "dl"
      · exact ⟨hq, hqb.mono (by omega)⟩
      · exact ⟨n1, n2.mono (by decide)⟩
      refine ⟨_, Le.refl _, Km.times q (if b = true then (W'.tie (g.headD 0)).c else Km.rest (W'.tie (g.headD 0)).c), some (.d (dNs g)), some (.d (.bl b)), some (.d (dF (W'.tie (g.headD 0)).c)), Km.times_pos hq n1, (Km.times_bd hqb n2).mono (by omega), ?_, rfl⟩
      rw [Km.val_times hq n1, hqv, n3, wt_step, Rat.mul_assoc]
    · rintro S' ⟨q, o6, o7, o8, hq, hqb, hqv, rfl⟩
      walk_at "dl"
      · exact ⟨hz, hb.mono (by omega)⟩
      · exact ⟨hq, hqb.mono (by omega)⟩
      refine ⟨_, Le.refl _, Km.plus z q, some (.d (dBs a)), some (.d (dF q)), o6, o7, o8, Km.plus_pos hz hq, (Km.plus_bd hb hqb).mono (by omega), ?_, rfl⟩
      rw [Km.val_plus hz hq, hv, hqv, sum_snoc _ ha]
  · rintro S' ⟨z, o4, o5, o6, o7, o8, hz, hb, hv, rfl⟩
    rw [List.take_length, Km.sum_rows] at hv
    walk_at "dl"
    refine ⟨_, k z ⟨hz, hb.mono (by omega)⟩ ?_, List.nil_sublist _⟩
    rw [hv]
    exact Km.tree_top hW hG hT (Nat.le_refl _)
end
end Dl

/-! drawn numbers -/
namespace Dl
open PySem PySem.Spec L2
open Km (Web Stand Wide Known Groups WebOk Node)
section
variable {B : Bs} {S : Sy} {F : Arg → Sy → Prop}
theorem wr_modN {a b : Nat} (h0 : 0 < b) (k : F (.d (dN (a % b))) S) : WR B (rI (fun _ j => 0 < j) fun i j => .int (i % j)) (.d (dN a)) (.d (dN b)) S F := wr_i (by omega) k
theorem wr_modC {a b : Nat} (h0 : 0 < b) (k : F (.d (dN (a % (OfNat.ofNat b : Nat)))) S) : WR B (rI (fun _ j => 0 < j) fun i j => .int (i % j)) (.d (dN a)) (.d (.int (@OfNat.ofNat Int b _))) S F := wr_modN h0 k
theorem wr_divN {a b : Nat} (h0 : 0 < b) (h1 : b < 4294967296) (k : F (.d (dN (a / b))) S) : WR B (rI CDivW fun i j => .int (i / j)) (.d (dN a)) (.d (dN b)) S F :=
  wr_i (wide_div (b := 32) (by omega) (by rw [Int.natAbs_natCast]; exact h1) (by decide) (by decide)) k
theorem wr_divC {a b : Nat} (h0 : 0 < b) (h1 : b < 4294967296) (k : F (.d (dN (a / (OfNat.ofNat b : Nat)))) S) : WR B (rI CDivW fun i j => .int (i / j)) (.d (dN a)) (.d (.int (@OfNat.ofNat Int b _))) S F := wr_divN h0 h1 k
theorem wr_addN {a b : Nat} (k : F (.d (dN (a + b))) S) : WR B (rI0 fun i j => .int (i + j)) (.d (dN a)) (.d (dN b)) S F := wr_i0 k
theorem wr_addL {a b : Nat} (k : F (.d (dN ((OfNat.ofNat a : Nat) + b))) S) : WR B (rI0 fun i j => .int (i + j)) (.d (.int (@OfNat.ofNat Int a _))) (.d (dN b)) S F := wr_addN k
theorem wr_addR {a b : Nat} (k : F (.d (dN (a + (OfNat.ofNat b : Nat)))) S) : WR B (rI0 fun i j => .int (i + j)) (.d (dN a)) (.d (.int (@OfNat.ofNat Int b _))) S F := wr_addN k
theorem wr_subN {a b : Nat} (h : b ≤ a) (k : F (.d (dN (a - b))) S) : WR B (rI0 fun i j => .int (i - j)) (.d (dN a)) (.d (dN b)) S F := wr_i0 (by
  rw [show (a : Int) - (b : Int) = ((a - b : Nat) : Int) by omega]
  exact k)
theorem wr_subR {a b : Nat} (h : (OfNat.ofNat b : Nat) ≤ a) (k : F (.d (dN (a - (OfNat.ofNat b : Nat)))) S) : WR B (rI0 fun i j => .int (i - j)) (.d (dN a)) (.d (.int (@OfNat.ofNat Int b _))) S F := wr_subN h k
theorem wr_subL {a b : Nat} (h : b ≤ (OfNat.ofNat a : Nat)) (k : F (.d (dN ((OfNat.ofNat a : Nat) - b))) S) : WR B (rI0 fun i j => .int (i - j)) (.d (.int (@OfNat.ofNat Int a _))) (.d (dN b)) S F := wr_subN h k
theorem wr_mulN {a b : Nat} (h : a < 4294967296) (k : F (.d (dN (a * b))) S) : WR B (rI CMul fun i j => .int (i * j)) (.d (dN a)) (.d (dN b)) S F := wr_i (.inl ⟨by omega, by omega⟩) k
theorem wr_mulL {a b : Nat} (h : a < 4294967296) (k : F (.d (dN ((OfNat.ofNat a : Nat) * b))) S) : WR B (rI CMul fun i j => .int (i * j)) (.d (.int (@OfNat.ofNat Int a _))) (.d (dN b)) S F := wr_mulN h k
theorem wc_maxN {a b : Nat} (k : F (.d (dN (max a b))) S) : WC B rMax2 [.d (dN a), .d (dN b)] S F := by
  refine wc_max2 ?_
  have e : (if (b : Int) > (a : Int) then (b : Int) else (a : Int)) = ((max a b : Nat) : Int) := by split <;> omega
  rw [e]
  exact k
theorem wc_maxL {a b : Nat} (k : F (.d (dN (max (OfNat.ofNat a : Nat) b))) S) : WC B rMax2 [.d (.int (@OfNat.ofNat Int a _)), .d (dN b)] S F := wc_maxN k
theorem wc_minN {a b : Nat} (k : F (.d (dN (min a b))) S) : WC B rMin2 [.d (dN a), .d (dN b)] S F := by
  refine wc_min2 ?_
  have e : (if (b : Int) < (a : Int) then (b : Int) else (a : Int)) = ((min a b : Nat) : Int) := by split <;> omega
  rw [e]
  exact k
end
abbrev dr (l : List Nat) : Ct := .lst ((l.map dN).map Arg.d)
def Dr (l : List Nat) : Prop := ∀ n ∈ l, n < 2147483648
theorem Dr.tail {n : Nat} {l : List Nat} (h : Dr (n :: l)) : Dr l := fun m hm => h m (List.mem_cons_of_mem _ hm)
theorem Dr.snoc {n : Nat} {l : List Nat} (h : Dr l) (hn : n < 2147483648) : Dr (l ++ [n]) := fun m hm => by
  rcases List.mem_append.mp hm with q | q
  · exact h m q
  · rw [List.mem_singleton.mp q]; exact hn
theorem low_ch {t b : Int} (h0 : 0 ≤ t) (h1 : t ≤ b) (h2 : 0 < b) (h3 : b ≤ 100) : Km.Ch (Km.low t b) := by
  have hg := Km.gcd_pos (t := t) h2
  refine ⟨Int.ediv_nonneg h0 (by omega), Int.ediv_le_ediv hg h1, Km.low_pos h2, ?_⟩
  exact Int.le_trans (Int.ediv_le_self _ (by omega)) h3
section
variable {P : Program} {w : World} {K : PySem.W.Frag} {mg : Str → Option Value} {base : Heap}
def pr__law_mixed : Prom := fun as m U => ∃ (i : Int) (k : Nat), as = [.d (.int i), .d (dN k)] ∧ m = [] ∧ k ≤ 1000 ∧ ∀ x : Nat, x < 2147483648 → U (.d (dN x)) []
theorem use__law_mixed {U : Arg → List Ob → Prop} {i : Int} {k : Nat} (hk : k ≤ 1000) (z : ∀ x : Nat, x < 2147483648 → U (.d (dN x)) []) : pr__law_mixed [.d (.int i), .d (dN k)] [] U := ⟨i, k, rfl, rfl, hk, z⟩
theorem len__law_mixed (as m W) (h : pr__law_mixed as m W) : as.length = 2 := by obtain ⟨_, _, rfl, _⟩ := h; rfl
set_option hygiene false in
local macro_rules | `(tactic| walk_at "dl") => `(tactic| (repeat' (first
  | with_reducible refine wx_op ?_ | with_reducible refine wx_int ?_ | with_reducible refine wx_bl ?_ | with_reducible refine wx_non ?_ | with_reducible refine wa_cons ?_ | with_reducible refine wa_nil ?_
  | ((with_reducible apply wx_var); focus exact rfl)
  | with_reducible refine wx_tup ?_ | with_reducible refine wx_cb ?_ | with_reducible refine wx_negC ?_ | with_reducible refine wx_lst0 ?_
  | with_reducible refine ws_ret ?_ | with_reducible refine ws_seq ?_ | with_reducible refine ws_asg ?_ | with_reducible refine ws_drop ?_ | with_reducible refine ws_next ?_ | with_reducible refine ws_if ?_ | with_reducible refine ws_par ?_
  | with_reducible refine wt_test ?_ | with_reducible refine wt_b ?_ | with_reducible refine wt_not ?_ | with_reducible refine wt_and ?_ | with_reducible refine wt_or ?_
  | with_reducible refine wg_name ?_ | with_reducible refine wg_tup2 ?_ | with_reducible refine wg_tup3 ?_
  | with_reducible refine wr_i0 ?_ | with_reducible refine wr_b0 ?_ | with_reducible refine wr_eqI ?_ | with_reducible refine wr_neI ?_ | with_reducible refine wr_i ?_ ?_
  | ((with_reducible apply wr_ixT); focus exact rfl)
  | with_reducible refine wc_abs ?_ | with_reducible refine wc_lenM ?_ | with_reducible refine wc_lenT ?_ | with_reducible refine wc_max2 ?_ | with_reducible refine wc_min2 ?_ | with_reducible refine wc_intB ?_
  | with_reducible refine ⟨_, rfl, ?_⟩ | with_reducible refine ⟨_, _, rfl, ?_⟩
  | with_reducible refine ⟨[_], map1, len1, ?_⟩ | with_reducible refine ⟨[_, _], map2, len2, ?_⟩ | with_reducible refine ⟨[_, _, _], map3, len3, ?_⟩ | with_reducible refine ⟨[_, _, _, _], map4, len4, ?_⟩ | with_reducible refine ⟨[], map0, len0, ?_⟩
  | with_reducible refine wx_lcT ?_ | with_reducible refine wx_lcT2 ?_ | with_reducible refine wx_lcL ?_ | with_reducible refine wx_lcR ?_ | with_reducible refine wx_lcE ?_ | with_reducible refine wx_cut2 ?_ | with_reducible refine wx_cut_2 ?_ | with_reducible refine wt_yes ?_
  | with_reducible refine ws_forT ?_ | with_reducible refine ws_forL ?_ | with_reducible refine ws_forV ?_ | with_reducible refine ws_forR ?_ | with_reducible refine ws_forE ?_ | with_reducible refine ws_forZ ?_
  | with_reducible refine wr_inN ?_ | with_reducible refine wr_inN2 ?_ | ((with_reducible apply wr_ixT); focus exact tie_at (by assumption)) | ((with_reducible apply wr_ixT); focus exact pat_at (by assumption))
  | with_reducible refine wc_tupZ ?_ | with_reducible refine wc_lenZ ?_ | with_reducible refine wc_allZ ?_ | with_reducible refine wc_sumZ ?_ | with_reducible refine wc_sortTN ?_ | with_reducible refine wc_sortLK ?_
  | ((with_reducible refine wr_catN ?_ ?_); focus (first | omega | skip)) | ((with_reducible refine wr_catN1 ?_ ?_); focus (first | omega | skip)) | ((with_reducible refine wr_catN2 ?_ ?_); focus (first | omega | skip))
  | with_reducible refine ⟨_, _, _, rfl, ?_⟩ | with_reducible refine ⟨_, _, _, _, rfl, ?_⟩
  | with_reducible refine wr_catT (xs := [_, _]) (ys := [_]) cat21 ?_ | with_reducible refine wr_catT (xs := [_, _]) (ys := [_, _]) cat22 ?_
  | with_reducible refine ⟨rfl, ?_⟩
  | assumption
  | fail)))

theorem ok__law_mixed (T : Txt K mg)  : FnOk P w K mg base CX0 1 T._law_mixed.f T._law_mixed.fd ["_law_cell", "_law_k"] (spD P w K pr__law_mixed) := by
  refine fnD T._law_mixed.F sc__law_mixed len__law_mixed (fun cdv Ar outer s H E hr => ⟨_, (pss_cons (ps_set (i := 2) sc__law_mixed.nd rfl (by first | exact Or.inl rfl | exact Or.inr rfl) (pe_op op_mod (pe_op op_add (pe_op op_add (pe_op op_mul (pe_op op_mod (pv 0) pe_int) pe_int) (pe_op op_mul (pe_op op_mul pe_int (pv 1)) (pv 1))) pe_int) pe_int))
    (pss_one (ps_ret (pe_op op_mod (pe_op op_mul (pv 2) (pv 2)) pe_int)))), fun as m W h => ?_⟩)
  try dsimp only [cxOf, Cx.nox, Cx.wish]
  obtain ⟨i, k, rfl, rfl, hk, z⟩ := h
  have h1 := Int.emod_nonneg i (show (2147483647 : Int) ≠ 0 by decide)
  have h2 := Int.emod_lt_of_pos i (show (0 : Int) < 2147483647 by decide)
  walk_at "dl"
  · decide
  · exact .inl ⟨by omega, by omega⟩
  · exact .inl ⟨by decide, by decide⟩
  · exact .inl ⟨by omega, by omega⟩
  · decide
  walk_at "dl"
  · have h3 := Int.emod_nonneg (i % 2147483647 * 48271 + 7919 * (k : Int) * (k : Int) + 104729) (show (2147483647 : Int) ≠ 0 by decide)
    have h4 := Int.emod_lt_of_pos (i % 2147483647 * 48271 + 7919 * (k : Int) * (k : Int) + 104729) (show (0 : Int) < 2147483647 by decide)
    exact .inl ⟨by omega, by omega⟩
  · decide
  generalize hx : (i % 2147483647 * 48271 + 7919 * (k : Int) * (k : Int) + 104729) % 2147483647 = x
  have h5 := Int.emod_nonneg (x * x) (show (2147483629 : Int) ≠ 0 by decide)
  have h6 := Int.emod_lt_of_pos (x * x) (show (0 : Int) < 2147483629 by decide)
  obtain ⟨y, hy⟩ : ∃ y : Nat, (x * x) % 2147483629 = (y : Int) := ⟨((x * x) % 2147483629).toNat, (Int.toNat_of_nonneg h5).symm⟩
  rw [hy] at h6 ⊢
  exact ⟨_, z y (by omega), List.nil_sublist _⟩
def pr__law_next : Prom := fun as m U => ∃ (d : Addr) (l : List Nat), as = [.a d] ∧ m = [(d, dr l, true)] ∧ Dr l ∧ ∀ x l', x < 2147483648 → Dr l' → U (.d (dN x)) [(d, dr l', true)]
theorem use__law_next {U : Arg → List Ob → Prop} {d : Addr} {l : List Nat} (h : Dr l) (k : ∀ x l', x < 2147483648 → Dr l' → U (.d (dN x)) [(d, dr l', true)]) : pr__law_next [.a d] [(d, dr l, true)] U := ⟨d, l, rfl, rfl, h, k⟩
theorem len__law_next (as m W) (h : pr__law_next as m W) : as.length = 1 := by obtain ⟨_, _, rfl, _⟩ := h; rfl
theorem ok__law_next (T : Txt K mg)  : FnOk P w K mg base CX0 1 T._law_next.f T._law_next.fd ["_law_drawn"] (spD P w K pr__law_next) := by
  refine fnD T._law_next.F sc__law_next len__law_next (fun cdv Ar outer s H E hr => ⟨_, (pss_cons (ps_if (pt_cmpR (show OpR _ _ (rEqD K) from op_eqD hr.units) (pv 0) (pe_lst pa_nil) (nomark _)) (pss_one (ps_ret pe_int)) pss_nil)
    (pss_one (ps_ret (show PE _ _ (tBM K "list" rPopAt _ _) from pe_bm PySem.F.plainAttrs_list PySem.F.slot_list_pop PySem.F.type_list_pop mt_popAt (pv 0) (pa_cons pe_int pa_nil))))), fun as m W h => ?_⟩)
  try dsimp only [cxOf, Cx.nox, Cx.wish]
  obtain ⟨d, l, rfl, rfl, hD, k⟩ := h
  walk_at "dl"
  intro q0
  apply wr_eqZ (n := 0)
  · exact rfl
  · exact dp_list dp_N
  walk_at "dl"
  cases l with
  | nil =>
    refine ⟨fun _ => ?_, fun h => nomatch h⟩
    walk_at "dl"
    exact ⟨_, k 0 [] (by decide) hD, List.Sublist.refl _⟩
  | cons x l =>
    refine ⟨(fun h => nomatch h), fun _ => ?_⟩
    walk_at "dl"
    refine wx_pop0 ?_
    walk_at "dl"
    refine ⟨_, 0, _, _, rfl, rfl, ?_⟩
    walk_at "dl"
    refine ⟨_, _, rfl, rfl, ?_⟩
    exact ⟨_, k x l (hD x List.mem_cons_self) hD.tail, List.Sublist.refl _⟩
def pr__law_chance : Prom := fun as m U => ∃ (n k : Nat), as = [.d (dN n), .d (dN k)] ∧ m = [] ∧ ∀ c, Km.Ch c → U (.d (dF c)) []
theorem use__law_chance {U : Arg → List Ob → Prop} {n k : Nat} (z : ∀ c, Km.Ch c → U (.d (dF c)) []) : pr__law_chance [.d (dN n), .d (dN k)] [] U := ⟨n, k, rfl, rfl, z⟩
theorem len__law_chance (as m W) (h : pr__law_chance as m W) : as.length = 2 := by obtain ⟨_, _, rfl, _⟩ := h; rfl
set_option exponentiation.threshold 10000 in
theorem hundred : 100 < 2 ^ 9000 := Nat.lt_of_lt_of_le (by decide : 100 < 2 ^ 7) (Nat.pow_le_pow_right (by decide) (by decide))
theorem six {n : Nat} : ∃ c, Km.Ch c ∧ [Arg.d (.tup [.int 1, .int 2]), Arg.d (.tup [.int 1, .int 3]), Arg.d (.tup [.int 2, .int 3]), Arg.d (.tup [.int 1, .int 1]), Arg.d (.tup [.int 0, .int 1]), Arg.d (.tup [.int 3, .int 4])][n % 6]? = some (.d (dF c)) := by
  have h : n % 6 < 6 := Nat.mod_lt _ (by decide)
  generalize n % 6 = r at h ⊢
  match r, h with
  | 0, _ => exact ⟨(1, 2), ⟨by decide, by decide, by decide, by decide⟩, rfl⟩
  | 1, _ => exact ⟨(1, 3), ⟨by decide, by decide, by decide, by decide⟩, rfl⟩
  | 2, _ => exact ⟨(2, 3), ⟨by decide, by decide, by decide, by decide⟩, rfl⟩
  | 3, _ => exact ⟨(1, 1), ⟨by decide, by decide, by decide, by decide⟩, rfl⟩
  | 4, _ => exact ⟨(0, 1), ⟨by decide, by decide, by decide, by decide⟩, rfl⟩
  | 5, _ => exact ⟨(3, 4), ⟨by decide, by decide, by decide, by decide⟩, rfl⟩
  | r + 6, h => omega
set_option hygiene false in
local macro_rules | `(tactic| walk_at "dl") => `(tactic| (repeat' (first
  | with_reducible refine wx_op ?_ | with_reducible refine wx_int ?_ | with_reducible refine wx_bl ?_ | with_reducible refine wx_non ?_ | with_reducible refine wa_cons ?_ | with_reducible refine wa_nil ?_
  | ((with_reducible apply wx_var); focus exact rfl)
  | with_reducible refine wx_tup ?_ | with_reducible refine wx_cb ?_ | with_reducible refine wx_negC ?_ | with_reducible refine wx_lst0 ?_
  | with_reducible refine ws_ret ?_ | with_reducible refine ws_seq ?_ | with_reducible refine ws_asg ?_ | with_reducible refine ws_drop ?_ | with_reducible refine ws_next ?_ | with_reducible refine ws_if ?_ | with_reducible refine ws_par ?_
  | with_reducible refine wt_test ?_ | with_reducible refine wt_b ?_ | with_reducible refine wt_not ?_ | with_reducible refine wt_and ?_ | with_reducible refine wt_or ?_
  | with_reducible refine wg_name ?_ | with_reducible refine wg_tup2 ?_ | with_reducible refine wg_tup3 ?_
  | ((with_reducible refine wr_modC ?_ ?_); (focus exact Nat.zero_lt_succ _)) | ((with_reducible refine wr_modN ?_ ?_); (focus first | omega | assumption)) | ((with_reducible refine wr_divC ?_ ?_ ?_); (focus exact Nat.zero_lt_succ _); (focus exact Nat.le_of_ble_eq_true rfl))
  | with_reducible refine wr_addN ?_ | with_reducible refine wr_addL ?_ | with_reducible refine wr_addR ?_ | ((with_reducible refine wr_subR ?_ ?_); (focus omega)) | ((with_reducible refine wr_subL ?_ ?_); (focus omega))
  | ((with_reducible refine wr_mulN ?_ ?_); (focus omega)) | ((with_reducible refine wr_mulL ?_ ?_); (focus exact Nat.le_of_ble_eq_true rfl))
  | with_reducible refine wc_maxN ?_ | with_reducible refine wc_maxL ?_ | with_reducible refine wc_minN ?_
  | with_reducible refine wr_i0 ?_ | with_reducible refine wr_b0 ?_ | with_reducible refine wr_eqI ?_ | with_reducible refine wr_neI ?_ | with_reducible refine wr_i ?_ ?_
  | ((with_reducible apply wr_ixT); focus exact rfl)
  | with_reducible refine wc_abs ?_ | with_reducible refine wc_lenM ?_ | with_reducible refine wc_lenT ?_ | with_reducible refine wc_max2 ?_ | with_reducible refine wc_min2 ?_ | with_reducible refine wc_intB ?_
  | with_reducible refine ⟨_, rfl, ?_⟩ | with_reducible refine ⟨_, _, rfl, ?_⟩
  | with_reducible refine ⟨[_], map1, len1, ?_⟩ | with_reducible refine ⟨[_, _], map2, len2, ?_⟩ | with_reducible refine ⟨[_, _, _], map3, len3, ?_⟩ | with_reducible refine ⟨[_, _, _, _], map4, len4, ?_⟩ | with_reducible refine ⟨[], map0, len0, ?_⟩
  | with_reducible refine wx_lcT ?_ | with_reducible refine wx_lcT2 ?_ | with_reducible refine wx_lcL ?_ | with_reducible refine wx_lcR ?_ | with_reducible refine wx_lcE ?_ | with_reducible refine wx_cut2 ?_ | with_reducible refine wx_cut_2 ?_ | with_reducible refine wt_yes ?_
  | with_reducible refine ws_forT ?_ | with_reducible refine ws_forL ?_ | with_reducible refine ws_forV ?_ | with_reducible refine ws_forR ?_ | with_reducible refine ws_forE ?_ | with_reducible refine ws_forZ ?_
  | with_reducible refine wr_inN ?_ | with_reducible refine wr_inN2 ?_ | ((with_reducible apply wr_ixT); focus exact tie_at (by assumption)) | ((with_reducible apply wr_ixT); focus exact pat_at (by assumption))
  | with_reducible refine wc_tupZ ?_ | with_reducible refine wc_lenZ ?_ | with_reducible refine wc_allZ ?_ | with_reducible refine wc_sumZ ?_ | with_reducible refine wc_sortTN ?_ | with_reducible refine wc_sortLK ?_
  | ((with_reducible refine wr_catN ?_ ?_); focus (first | omega | skip)) | ((with_reducible refine wr_catN1 ?_ ?_); focus (first | omega | skip)) | ((with_reducible refine wr_catN2 ?_ ?_); focus (first | omega | skip))
  | with_reducible refine ⟨_, _, _, rfl, ?_⟩ | with_reducible refine ⟨_, _, _, _, rfl, ?_⟩
  | with_reducible refine wr_catT (xs := [_, _]) (ys := [_]) cat21 ?_ | with_reducible refine wr_catT (xs := [_, _]) (ys := [_, _]) cat22 ?_
  | with_reducible refine ⟨rfl, ?_⟩
  | assumption
  | with_reducible refine wx_callP (A := pr__law_low) ?_ | with_reducible refine use__law_low ?_ ?_ ?_
  | fail)))

theorem ok__law_chance (T : Txt K mg) (G_law_low : FnOk P w K mg base CX0 2 T._law_low.f T._law_low.fd ["_law_top", "_law_bottom"] (spD P w K pr__law_low)) : FnOk P w K mg base CX0 3 T._law_chance.f T._law_chance.fd ["_law_number", "_law_kind"] (spD P w K pr__law_chance) := by
  refine fnD T._law_chance.F sc__law_chance len__law_chance (fun cdv Ar outer s H E hr => ⟨_, (pss_cons (ps_if (pt_cmpR op_eq (pv 1) pe_int (nomark _)) (pss_one (ps_ret (pe_ix (show IxR _ (rIxL K) from ix_list) (pe_lst (pa_cons (pe_tup (pa_cons pe_int (pa_cons pe_int pa_nil))) (pa_cons (pe_tup (pa_cons pe_int (pa_cons pe_int pa_nil))) (pa_cons (pe_tup (pa_cons pe_int (pa_cons pe_int pa_nil))) (pa_cons (pe_tup (pa_cons pe_int (pa_cons pe_int pa_nil))) (pa_cons (pe_tup (pa_cons pe_int (pa_cons pe_int pa_nil))) (pa_cons (pe_tup (pa_cons pe_int (pa_cons pe_int pa_nil))) pa_nil))))))) (pe_op op_mod (pv 0) pe_int) (fun _ _ => rfl)))) pss_nil)
    (pss_cons (ps_if (pt_cmpR op_eq (pv 1) pe_int (nomark _)) (pss_cons (ps_set (i := 2) sc__law_chance.nd rfl (by first | exact Or.inl rfl | exact Or.inr rfl) (pe_op op_add pe_int (pe_op op_mod (pv 0) pe_int)))
     (pss_one (ps_ret (pe_call G_law_low (hr.mono (by decide)) rfl T._law_low.g T._law_low.F.kp T._law_low.b .nil pass0 (pa_cons (pe_op op_add pe_int (pe_op op_mod (pe_op op_fdivW (pv 0) pe_int) (pe_op op_sub (pv 2) pe_int))) (pa_cons (pv 2) pa_nil)))))) pss_nil)
    (pss_cons (ps_if (pt_cmpR op_eq (pv 1) pe_int (nomark _)) (pss_cons (ps_set (i := 2) sc__law_chance.nd rfl (by first | exact Or.inl rfl | exact Or.inr rfl) (pe_op op_add pe_int (pe_op op_mod (pv 0) pe_int)))
     (pss_one (ps_ret (pe_call G_law_low (hr.mono (by decide)) rfl T._law_low.g T._law_low.F.kp T._law_low.b .nil pass0 (pa_cons (pe_op op_mod (pe_op op_fdivW (pv 0) pe_int) (pe_op op_add (pv 2) pe_int)) (pa_cons (pv 2) pa_nil)))))) pss_nil)
    (pss_one (ps_ret (pe_tup (pa_cons pe_int (pa_cons pe_int pa_nil)))))))), fun as m W h => ?_⟩)
  try dsimp only [cxOf, Cx.nox, Cx.wish]
  obtain ⟨n, k, rfl, rfl, z⟩ := h
  walk_at "dl"
  refine ⟨fun _ => ?_, fun _ => ?_⟩
  · walk_at "dl"
    refine wx_lst (wa_cons ?_)
    walk_at "dl"
    refine ⟨len_le rfl, fun q => ?_⟩
    walk_at "dl"
    obtain ⟨c, hc, hx⟩ := six (n := n)
    refine wr_ixZ (atI_nat hx) ?_
    exact ⟨_, z c hc, List.nil_sublist _⟩
  walk_at "dl"
  refine ⟨fun _ => ?_, fun _ => ?_⟩
  · have h2 : n / 9 % (2 + n % 9 - 1) < 2 + n % 9 - 1 := Nat.mod_lt _ (by omega)
    have h9 : n % 9 < 9 := Nat.mod_lt _ (by decide)
    walk_at "dl"
    · omega
    · exact Nat.lt_of_le_of_lt (by rw [Int.natAbs_natCast]; show _ ≤ 100; omega) hundred
    exact ⟨_, z _ (low_ch (by omega) (by omega) (by omega) (by omega)), List.nil_sublist _⟩
  walk_at "dl"
  refine ⟨fun _ => ?_, fun _ => ?_⟩
  · have h2 : n / 100 % (1 + n % 100 + 1) < 1 + n % 100 + 1 := Nat.mod_lt _ (by omega)
    have h9 : n % 100 < 100 := Nat.mod_lt _ (by decide)
    walk_at "dl"
    · omega
    · exact Nat.lt_of_le_of_lt (by rw [Int.natAbs_natCast]; show _ ≤ 100; omega) hundred
    exact ⟨_, z _ (low_ch (by omega) (by omega) (by omega) (by omega)), List.nil_sublist _⟩
  · walk_at "dl"
    exact ⟨_, z (1, 1) ⟨by decide, by decide, by decide, by decide⟩, List.nil_sublist _⟩
def pr__law_worth : Prom := fun as m U => ∃ (n k : Nat), as = [.d (dN n), .d (dN k)] ∧ m = [] ∧ ∀ x : Nat, x ≤ 1000 → U (.d (dN x)) []
theorem use__law_worth {U : Arg → List Ob → Prop} {n k : Nat} (z : ∀ x : Nat, x ≤ 1000 → U (.d (dN x)) []) : pr__law_worth [.d (dN n), .d (dN k)] [] U := ⟨n, k, rfl, rfl, z⟩
theorem len__law_worth (as m W) (h : pr__law_worth as m W) : as.length = 2 := by obtain ⟨_, _, rfl, _⟩ := h; rfl
theorem four {n k : Nat} : ∃ x : Nat, x ≤ 1000 ∧ [Arg.d (dN (n % 7)), Arg.d (dN (5 + n % 2)), Arg.d (dN (n % 1001)), Arg.d (dN (1000 - n % 3))][k % 4]? = some (.d (dN x)) := by
  have h : k % 4 < 4 := Nat.mod_lt _ (by decide)
  have h7 : n % 7 < 7 := Nat.mod_lt _ (by decide)
  have h2 : n % 2 < 2 := Nat.mod_lt _ (by decide)
  have h1 : n % 1001 < 1001 := Nat.mod_lt _ (by decide)
  have h3 : n % 3 < 3 := Nat.mod_lt _ (by decide)
  generalize k % 4 = r at h ⊢
  match r, h with
  | 0, _ => exact ⟨n % 7, by omega, rfl⟩
  | 1, _ => exact ⟨5 + n % 2, by omega, rfl⟩
  | 2, _ => exact ⟨n % 1001, by omega, rfl⟩
  | 3, _ => exact ⟨1000 - n % 3, by omega, rfl⟩
  | r + 4, h => omega
theorem ok__law_worth (T : Txt K mg)  : FnOk P w K mg base CX0 1 T._law_worth.f T._law_worth.fd ["_law_number", "_law_kind"] (spD P w K pr__law_worth) := by
  refine fnD T._law_worth.F sc__law_worth len__law_worth (fun cdv Ar outer s H E hr => ⟨_, (pss_one (ps_ret (pe_ix (show IxR _ (rIxL K) from ix_list) (pe_lst (pa_cons (pe_op op_mod (pv 0) pe_int) (pa_cons (pe_op op_add pe_int (pe_op op_mod (pv 0) pe_int)) (pa_cons (pe_op op_mod (pv 0) pe_int) (pa_cons (pe_op op_sub pe_int (pe_op op_mod (pv 0) pe_int)) pa_nil))))) (pe_op op_mod (pv 1) pe_int) (fun _ _ => rfl)))), fun as m W h => ?_⟩)
  try dsimp only [cxOf, Cx.nox, Cx.wish]
  obtain ⟨n, k, rfl, rfl, z⟩ := h
  walk_at "dl"
  refine wx_lst (wa_cons ?_)
  walk_at "dl"
  refine ⟨len_le rfl, fun q => ?_⟩
  walk_at "dl"
  obtain ⟨x, hx, e⟩ := four (n := n) (k := k)
  refine wr_ixZ (atI_nat e) ?_
  exact ⟨_, z x hx, List.nil_sublist _⟩
end
end Dl

/-! drawn webs -/
namespace Dl
open PySem PySem.Spec L2
open Km (Web Stand Wide Known Groups WebOk Node Tie TieOk)
section
variable {B : Bs} {S : Sy} {F : Arg → Sy → Prop}
theorem wc_minR {a b : Nat} (k : F (.d (dN (min a (OfNat.ofNat b : Nat)))) S) : WC B rMin2 [.d (dN a), .d (.int (@OfNat.ofNat Int b _))] S F := wc_minN k
theorem wc_absN {i : Int} (k : F (.d (dN i.natAbs)) S) : WC B rAbs [.d (.int i)] S F := wc_abs (by
  rw [show (if i < 0 then -i else i) = ((i.natAbs : Nat) : Int) by split <;> omega]
  exact k)
theorem wr_pow18 (k : F (.d (.int 1000000000000000000)) S) : WR B (rI CPow fun i j => .int (i ^ j.toNat)) (.d (.int 10)) (.d (.int 18)) S F := wr_i ⟨by decide, by decide, by decide⟩ k
end
section
variable {P : Program} {w : World} {K : PySem.W.Frag} {mg : Str → Option Value} {base : Heap}
def pr__law_draws : Prom := fun as m U => ∃ ns : List Int, as = [.s ns] ∧ m = [] ∧ ns.length ≤ 63 ∧ ∀ d l, Dr l → U (.a d) [(d, dr l, true)]
theorem use__law_draws {U : Arg → List Ob → Prop} {ns : List Int} (hn : ns.length ≤ 63) (k : ∀ d l, Dr l → U (.a d) [(d, dr l, true)]) : pr__law_draws [.s ns] [] U := ⟨ns, rfl, rfl, hn, k⟩
theorem len__law_draws (as m W) (h : pr__law_draws as m W) : as.length = 1 := by obtain ⟨_, rfl, _⟩ := h; rfl
theorem dr_snoc (l : List Nat) (x : Nat) : (l.map dN).map Arg.d ++ [Arg.d (dN x)] = ((l ++ [x]).map dN).map Arg.d := by
  rw [List.map_append, List.map_append]; rfl
theorem dr_len (l : List Nat) : ((l.map dN).map Arg.d).length = l.length := by rw [List.length_map, List.length_map]
set_option hygiene false in
local macro_rules | `(tactic| walk_at "dl") => `(tactic| (repeat' (first
  | with_reducible refine wx_op ?_ | with_reducible refine wx_int ?_ | with_reducible refine wx_bl ?_ | with_reducible refine wx_non ?_ | with_reducible refine wa_cons ?_ | with_reducible refine wa_nil ?_
  | ((with_reducible apply wx_var); focus exact rfl)
  | with_reducible refine wx_tup ?_ | with_reducible refine wx_cb ?_ | with_reducible refine wx_negC ?_ | with_reducible refine wx_lst0 ?_
  | with_reducible refine ws_ret ?_ | with_reducible refine ws_seq ?_ | with_reducible refine ws_asg ?_ | with_reducible refine ws_drop ?_ | with_reducible refine ws_next ?_ | with_reducible refine ws_if ?_ | with_reducible refine ws_par ?_
  | with_reducible refine wt_test ?_ | with_reducible refine wt_b ?_ | with_reducible refine wt_not ?_ | with_reducible refine wt_and ?_ | with_reducible refine wt_or ?_
  | with_reducible refine wg_name ?_ | with_reducible refine wg_tup2 ?_ | with_reducible refine wg_tup3 ?_
  | ((with_reducible refine wr_modC ?_ ?_); (focus exact Nat.zero_lt_succ _)) | ((with_reducible refine wr_modN ?_ ?_); (focus first | omega | assumption)) | ((with_reducible refine wr_divC ?_ ?_ ?_); (focus exact Nat.zero_lt_succ _); (focus exact Nat.le_of_ble_eq_true rfl))
  | with_reducible refine wr_addN ?_ | with_reducible refine wr_addL ?_ | with_reducible refine wr_addR ?_ | ((with_reducible refine wr_subR ?_ ?_); (focus omega)) | ((with_reducible refine wr_subL ?_ ?_); (focus omega))
  | ((with_reducible refine wr_mulN ?_ ?_); (focus omega)) | ((with_reducible refine wr_mulL ?_ ?_); (focus exact Nat.le_of_ble_eq_true rfl))
  | with_reducible refine wc_maxN ?_ | with_reducible refine wc_maxL ?_ | with_reducible refine wc_minN ?_
  | with_reducible refine wc_minR ?_ | with_reducible refine wc_lenS ?_ | with_reducible refine wc_absN ?_ | with_reducible refine wr_pow18 ?_
  | with_reducible refine wr_i0 ?_ | with_reducible refine wr_b0 ?_ | with_reducible refine wr_eqI ?_ | with_reducible refine wr_neI ?_ | with_reducible refine wr_i ?_ ?_
  | ((with_reducible apply wr_ixT); focus exact rfl)
  | with_reducible refine wc_abs ?_ | with_reducible refine wc_lenM ?_ | with_reducible refine wc_lenT ?_ | with_reducible refine wc_max2 ?_ | with_reducible refine wc_min2 ?_ | with_reducible refine wc_intB ?_
  | with_reducible refine ⟨_, rfl, ?_⟩ | with_reducible refine ⟨_, _, rfl, ?_⟩
  | with_reducible refine ⟨[_], map1, len1, ?_⟩ | with_reducible refine ⟨[_, _], map2, len2, ?_⟩ | with_reducible refine ⟨[_, _, _], map3, len3, ?_⟩ | with_reducible refine ⟨[_, _, _, _], map4, len4, ?_⟩ | with_reducible refine ⟨[], map0, len0, ?_⟩
  | with_reducible refine wx_lcT ?_ | with_reducible refine wx_lcT2 ?_ | with_reducible refine wx_lcL ?_ | with_reducible refine wx_lcR ?_ | with_reducible refine wx_lcE ?_ | with_reducible refine wx_cut2 ?_ | with_reducible refine wx_cut_2 ?_ | with_reducible refine wt_yes ?_
  | with_reducible refine ws_forT ?_ | with_reducible refine ws_forL ?_ | with_reducible refine ws_forV ?_ | with_reducible refine ws_forR ?_ | with_reducible refine ws_forE ?_ | with_reducible refine ws_forZ ?_
  | with_reducible refine wr_inN ?_ | with_reducible refine wr_inN2 ?_ | ((with_reducible apply wr_ixT); focus exact tie_at (by assumption)) | ((with_reducible apply wr_ixT); focus exact pat_at (by assumption))
  | with_reducible refine wc_tupZ ?_ | with_reducible refine wc_lenZ ?_ | with_reducible refine wc_allZ ?_ | with_reducible refine wc_sumZ ?_ | with_reducible refine wc_sortTN ?_ | with_reducible refine wc_sortLK ?_
  | ((with_reducible refine wr_catN ?_ ?_); focus (first | omega | skip)) | ((with_reducible refine wr_catN1 ?_ ?_); focus (first | omega | skip)) | ((with_reducible refine wr_catN2 ?_ ?_); focus (first | omega | skip))
  | with_reducible refine ⟨_, _, _, rfl, ?_⟩ | with_reducible refine ⟨_, _, _, _, rfl, ?_⟩
  | with_reducible refine wr_catT (xs := [_, _]) (ys := [_]) cat21 ?_ | with_reducible refine wr_catT (xs := [_, _]) (ys := [_, _]) cat22 ?_
  | with_reducible refine ⟨rfl, ?_⟩
  | assumption
  | with_reducible refine wx_callP (A := pr__law_mixed) ?_ | with_reducible refine use__law_mixed ?_ ?_
  | fail)))

theorem ok__law_draws (T : Txt K mg) (G_law_mixed : FnOk P w K mg base CX0 1 T._law_mixed.f T._law_mixed.fd ["_law_cell", "_law_k"] (spD P w K pr__law_mixed)) : FnOk P w K mg base CX0 2 T._law_draws.f T._law_draws.fd ["_law_script"] (spD P w K pr__law_draws) := by
  refine fnD T._law_draws.F sc__law_draws len__law_draws (fun cdv Ar outer s H E hr => ⟨_, (pss_cons (ps_set (i := 1) sc__law_draws.nd rfl (by first | exact Or.inl rfl | exact Or.inr rfl) (pe_lst pa_nil))
    (pss_cons (ps_for PassesOwn.never rfl (pi_range1 rfl T.range (pa_cons (pe_callB (show CallR _ _ rMin2 from call_min2 rfl) (by rfl) T.min PyProof.Rows.boot_min (pa_cons (pe_callB (show CallR _ _ (rLen K) from call_len_seq) (by rfl) T.len PySem.boot_len (pa_cons (pv 0) pa_nil)) (pa_cons pe_int pa_nil))) pa_nil)) (pg_name (i := 2) sc__law_draws.nd rfl (by first | exact Or.inl rfl | exact Or.inr rfl))
    (pss_cons (ps_set (i := 3) sc__law_draws.nd rfl (by first | exact Or.inl rfl | exact Or.inr rfl) (pe_callB (show CallR _ _ rAbs from call_abs) (by rfl) T.abs PyProof.Rows.boot_abs (pa_cons (pe_ix (show IxR _ (rIxL K) from ix_list) (pv 0) (pv 2) (fun _ _ => rfl)) pa_nil)))
     (pss_cons (ps_if (pt_cmpR op_lt (pv 3) (pe_op op_pow pe_int pe_int) (nomark _)) (pss_one (ps_for PassesOwn.never rfl (pi_range1 rfl T.range (pa_cons pe_int pa_nil)) (pg_name (i := 4) sc__law_draws.nd rfl (by first | exact Or.inl rfl | exact Or.inr rfl))
      (pss_one (ps_expr (show PE _ _ (tBM K "list" rAppend _ _) from pe_bm PySem.F.plainAttrs_list PySem.F.slot_list_append PySem.F.type_list_append mt_append (pv 1) (pa_cons (pe_call G_law_mixed (hr.mono (by decide)) rfl T._law_mixed.g T._law_mixed.F.kp T._law_mixed.b .nil pass0 (pa_cons (pe_call G_law_mixed (hr.mono (by decide)) rfl T._law_mixed.g T._law_mixed.F.kp T._law_mixed.b .nil pass0 (pa_cons (pv 3) (pa_cons (pe_op op_add (pe_op op_mul pe_int (pv 4)) pe_int) pa_nil))) (pa_cons (pe_op op_add (pe_op op_add (pv 4) (pv 2)) pe_int) pa_nil))) pa_nil)))))) pss_nil)
     (pss_cons (ps_while PassesOwn.never (PW.pt (pw_and (pt_cmpR op_ge (pv 3) (pe_op op_pow pe_int pe_int) (nomark _)) (pw_and1 (pt_cmpR op_lt (pe_callB (show CallR _ _ (rLen K) from call_len_seq) (by rfl) T.len PySem.boot_len (pa_cons (pv 1) pa_nil)) pe_int (nomark _)))))
     (pss_cons (ps_expr (show PE _ _ (tBM K "list" rAppend _ _) from pe_bm PySem.F.plainAttrs_list PySem.F.slot_list_append PySem.F.type_list_append mt_append (pv 1) (pa_cons (pe_op op_mod (pv 3) pe_int) pa_nil)))
      (pss_one (ps_set (i := 3) sc__law_draws.nd rfl (by first | exact Or.inl rfl | exact Or.inr rfl) (pe_op op_fdivW (pv 3) pe_int)))))
     (pss_one (ps_if (pt_cmpR op_ge (pv 3) pe_int (nomark _)) (pss_one (ps_expr (show PE _ _ (tBM K "list" rAppend _ _) from pe_bm PySem.F.plainAttrs_list PySem.F.slot_list_append PySem.F.type_list_append mt_append (pv 1) (pa_cons (pe_op op_mod (pv 3) pe_int) pa_nil)))) pss_nil))))))
    (pss_one (ps_ret (pv 1))))), fun as m W h => ?_⟩)
  try dsimp only [cxOf, Cx.nox, Cx.wish]
  obtain ⟨ns, rfl, rfl, hn, k⟩ := h
  walk_at "dl"
  intro d
  walk_at "dl"
  refine ⟨by omega, fun i S' => ∃ l o2 o3 o4, Dr l ∧ l.length ≤ 900 + 13 * i ∧ S' = ⟨[some (.s ns), some (.a d), o2, o3, o4], [(d, dr l, true)]⟩, ⟨[], none, none, none, (fun _ h => absurd h List.not_mem_nil), by decide, rfl⟩, ?_, ?_⟩
  · rintro i S' hi ⟨l, o2, o3, o4, hD, hl, rfl⟩
    have hin : i < ns.length := by omega
    refine ws_cut (fun S1 => ∃ c o4, S1 = ⟨[some (.s ns), some (.a d), some (.d (dN i)), some (.d (dN c)), o4], [(d, dr l, true)]⟩) ?_ ?_
    · walk_at "dl"
      refine wr_ixS (atI_nat (List.getElem?_eq_getElem hin)) ?_
      walk_at "dl"
      exact ⟨_, o4, rfl⟩
    rintro S1 ⟨c, o4, rfl⟩
    refine ws_cut (fun S1 => ∃ l o4, Dr l ∧ l.length ≤ 900 + 13 * i + 12 ∧ S1 = ⟨[some (.s ns), some (.a d), some (.d (dN i)), some (.d (dN c)), o4], [(d, dr l, true)]⟩) ?_ ?_
    · walk_at "dl"
      refine ⟨fun _ => ?_, fun _ => ?_⟩
      · walk_at "dl"
        refine ⟨by decide, fun j S' => ∃ l o4, Dr l ∧ l.length ≤ 900 + 13 * i + j ∧ S' = ⟨[some (.s ns), some (.a d), some (.d (dN i)), some (.d (dN c)), o4], [(d, dr l, true)]⟩, ⟨l, o4, hD, by omega, rfl⟩, ?_, ?_⟩
        · rintro j S' hj ⟨l, o4, hD, hl, rfl⟩
          have hj' : j < 12 := hj
          walk_at "dl"
          refine wx_app ?_
          walk_at "dl"
          refine ⟨_, 0, _, _, rfl, rfl, ?_⟩
          walk_at "dl"
          · omega
          intro x hx
          walk_at "dl"
          · omega
          intro y hy
          walk_at "dl"
          refine ⟨_, _, rfl, rfl, by rw [dr_len]; omega, ?_⟩
          rw [dr_snoc]
          exact ⟨_, Le.refl _, l ++ [y], _, hD.snoc hy, by rw [List.length_append]; show l.length + 1 ≤ _; omega, rfl⟩
        · rintro S' ⟨l, o4, hD, hl, rfl⟩
          exact ⟨l, o4, hD, hl, rfl⟩
      · walk_at "dl"
        exact ⟨l, o4, hD, by omega, rfl⟩
    rintro S1 ⟨l, o4, hD, hl, rfl⟩
    refine ws_cut (fun S1 => ∃ l c o4, Dr l ∧ l.length ≤ 900 + 13 * i + 12 ∧ S1 = ⟨[some (.s ns), some (.a d), some (.d (dN i)), some (.d (dN c)), o4], [(d, dr l, true)]⟩) ?_ ?_
    · refine ws_while (fun q S1 => ∃ l c o4, q = c ∧ Dr l ∧ l.length ≤ 900 + 13 * i + 12 ∧ S1 = ⟨[some (.s ns), some (.a d), some (.d (dN i)), some (.d (dN c)), o4], [(d, dr l, true)]⟩) c ⟨l, c, o4, rfl, hD, hl, rfl⟩ ?_
      rintro q S' ⟨l, c, o4, rfl, hD, hl, rfl⟩
      walk_at "dl"
      refine ⟨fun hc => ?_, fun _ => ⟨(fun h => nomatch h), fun _ => ⟨l, q, o4, hD, hl, rfl⟩⟩⟩
      have hbig : (1000000000000000000 : Int) ≤ (q : Int) := of_decide_eq_true hc
      walk_at "dl"
      refine wc_lenL (n := 0) rfl ?_
      walk_at "dl"
      refine ⟨fun hc2 => ?_, fun _ => ⟨l, q, o4, hD, hl, rfl⟩⟩
      have hlt : l.length < 900 := by
        have := of_decide_eq_true hc2
        rw [dr_len] at this
        omega
      walk_at "dl"
      refine wx_app ?_
      walk_at "dl"
      refine ⟨_, 0, _, _, rfl, rfl, ?_⟩
      walk_at "dl"
      refine ⟨_, _, rfl, rfl, by rw [dr_len]; omega, ?_⟩
      rw [dr_snoc]
      walk_at "dl"
      refine ⟨q / 2147483629, _, Nat.div_lt_self (by omega) (by decide), Le.refl _, l ++ [q % 2147483629], q / 2147483629, o4, rfl, hD.snoc (Nat.lt_of_lt_of_le (Nat.mod_lt _ (by decide)) (by decide)), by rw [List.length_append]; show l.length + 1 ≤ _; omega, rfl⟩
    rintro S1 ⟨l, c, o4, hD, hl, rfl⟩
    walk_at "dl"
    refine ⟨fun _ => ?_, fun _ => ?_⟩
    · walk_at "dl"
      refine wx_app ?_
      walk_at "dl"
      refine ⟨_, 0, _, _, rfl, rfl, ?_⟩
      walk_at "dl"
      refine ⟨_, _, rfl, rfl, by rw [dr_len]; omega, ?_⟩
      rw [dr_snoc]
      exact ⟨_, Le.refl _, l ++ [c % 2147483629], some (.d (dN i)), some (.d (dN c)), o4, hD.snoc (Nat.lt_of_lt_of_le (Nat.mod_lt _ (by decide)) (by decide)), by rw [List.length_append]; show l.length + 1 ≤ _; omega, rfl⟩
    · walk_at "dl"
      exact ⟨_, Le.refl _, l, some (.d (dN i)), some (.d (dN c)), o4, hD, by omega, rfl⟩
  · rintro S' ⟨l, o2, o3, o4, hD, hl, rfl⟩
    walk_at "dl"
    exact ⟨_, k d l hD, List.Sublist.refl _⟩
/-! ### ties -/
def pr__law_ties : Prom := fun as m U => ∃ (d : Addr) (l : List Nat) (th n : Nat), as = [.a d, .d (dN th), .d (dN n)] ∧ m = [(d, dr l, true)] ∧ Dr l ∧ 2 ≤ th ∧ th ≤ 100 ∧ n ≤ 5 ∧
  ∀ (ts : List Tie) (l' : List Nat), ts.length = n → (∀ T ∈ ts, TieOk th T) → Dr l' → U (.d (.tup (ts.map dTie))) [(d, dr l', true)]
theorem use__law_ties {U : Arg → List Ob → Prop} {d : Addr} {l : List Nat} {th n : Nat} (hD : Dr l) (h2 : 2 ≤ th) (h1 : th ≤ 100) (hn : n ≤ 5) (k : ∀ (ts : List Tie) (l' : List Nat), ts.length = n → (∀ T ∈ ts, TieOk th T) → Dr l' → U (.d (.tup (ts.map dTie))) [(d, dr l', true)]) :
    pr__law_ties [.a d, .d (dN th), .d (dN n)] [(d, dr l, true)] U := ⟨d, l, th, n, rfl, rfl, hD, h2, h1, hn, k⟩
theorem len__law_ties (as m W) (h : pr__law_ties as m W) : as.length = 3 := by obtain ⟨_, _, _, _, rfl, _⟩ := h; rfl
theorem shapes {n th k s : Nat} (hs : s < 6) (h2 : 2 ≤ th) : ∃ x, x < th ∧ [Arg.d (dN (n % th)), Arg.d (.int 0), Arg.d (dN (k % th)), Arg.d (dN (n % th)), Arg.d (dN (n % 2)), Arg.d (dN (n % th))][s]? = some (.d (dN x)) := by
  have h : ∀ m, m % th < th := fun m => Nat.mod_lt _ (by omega)
  have h3 : n % 2 < 2 := Nat.mod_lt _ (by decide)
  match s, hs with
  | 0, _ => exact ⟨_, h n, rfl⟩
  | 1, _ => exact ⟨0, by omega, rfl⟩
  | 2, _ => exact ⟨_, h k, rfl⟩
  | 3, _ => exact ⟨_, h n, rfl⟩
  | 4, _ => exact ⟨n % 2, by omega, rfl⟩
  | 5, _ => exact ⟨_, h n, rfl⟩
  | s + 6, h => omega
set_option hygiene false in
local macro_rules | `(tactic| walk_at "dl") => `(tactic| (repeat' (first
  | with_reducible refine wx_op ?_ | with_reducible refine wx_int ?_ | with_reducible refine wx_bl ?_ | with_reducible refine wx_non ?_ | with_reducible refine wa_cons ?_ | with_reducible refine wa_nil ?_
  | ((with_reducible apply wx_var); focus exact rfl)
  | with_reducible refine wx_tup ?_ | with_reducible refine wx_cb ?_ | with_reducible refine wx_negC ?_ | with_reducible refine wx_lst0 ?_
  | with_reducible refine ws_ret ?_ | with_reducible refine ws_seq ?_ | with_reducible refine ws_asg ?_ | with_reducible refine ws_drop ?_ | with_reducible refine ws_next ?_ | with_reducible refine ws_if ?_ | with_reducible refine ws_par ?_
  | with_reducible refine wt_test ?_ | with_reducible refine wt_b ?_ | with_reducible refine wt_not ?_ | with_reducible refine wt_and ?_ | with_reducible refine wt_or ?_
  | with_reducible refine wg_name ?_ | with_reducible refine wg_tup2 ?_ | with_reducible refine wg_tup3 ?_
  | ((with_reducible refine wr_modC ?_ ?_); (focus exact Nat.zero_lt_succ _)) | ((with_reducible refine wr_modN ?_ ?_); (focus first | omega | assumption)) | ((with_reducible refine wr_divC ?_ ?_ ?_); (focus exact Nat.zero_lt_succ _); (focus exact Nat.le_of_ble_eq_true rfl))
  | with_reducible refine wr_addN ?_ | with_reducible refine wr_addL ?_ | with_reducible refine wr_addR ?_ | ((with_reducible refine wr_subR ?_ ?_); (focus omega)) | ((with_reducible refine wr_subL ?_ ?_); (focus omega))
  | ((with_reducible refine wr_mulN ?_ ?_); (focus omega)) | ((with_reducible refine wr_mulL ?_ ?_); (focus exact Nat.le_of_ble_eq_true rfl))
  | with_reducible refine wc_maxN ?_ | with_reducible refine wc_maxL ?_ | with_reducible refine wc_minN ?_
  | with_reducible refine wc_minR ?_ | with_reducible refine wc_lenS ?_ | with_reducible refine wc_absN ?_ | with_reducible refine wr_pow18 ?_
  | with_reducible refine wr_i0 ?_ | with_reducible refine wr_b0 ?_ | with_reducible refine wr_eqI ?_ | with_reducible refine wr_neI ?_ | with_reducible refine wr_i ?_ ?_
  | ((with_reducible apply wr_ixT); focus exact rfl)
  | with_reducible refine wc_abs ?_ | with_reducible refine wc_lenM ?_ | with_reducible refine wc_lenT ?_ | with_reducible refine wc_max2 ?_ | with_reducible refine wc_min2 ?_ | with_reducible refine wc_intB ?_
  | with_reducible refine ⟨_, rfl, ?_⟩ | with_reducible refine ⟨_, _, rfl, ?_⟩
  | with_reducible refine ⟨[_], map1, len1, ?_⟩ | with_reducible refine ⟨[_, _], map2, len2, ?_⟩ | with_reducible refine ⟨[_, _, _], map3, len3, ?_⟩ | with_reducible refine ⟨[_, _, _, _], map4, len4, ?_⟩ | with_reducible refine ⟨[], map0, len0, ?_⟩
  | with_reducible refine wx_lcT ?_ | with_reducible refine wx_lcT2 ?_ | with_reducible refine wx_lcL ?_ | with_reducible refine wx_lcR ?_ | with_reducible refine wx_lcE ?_ | with_reducible refine wx_cut2 ?_ | with_reducible refine wx_cut_2 ?_ | with_reducible refine wt_yes ?_
  | with_reducible refine ws_forT ?_ | with_reducible refine ws_forL ?_ | with_reducible refine ws_forV ?_ | with_reducible refine ws_forR ?_ | with_reducible refine ws_forE ?_ | with_reducible refine ws_forZ ?_
  | with_reducible refine wr_inN ?_ | with_reducible refine wr_inN2 ?_ | ((with_reducible apply wr_ixT); focus exact tie_at (by assumption)) | ((with_reducible apply wr_ixT); focus exact pat_at (by assumption))
  | with_reducible refine wc_tupZ ?_ | with_reducible refine wc_lenZ ?_ | with_reducible refine wc_allZ ?_ | with_reducible refine wc_sumZ ?_ | with_reducible refine wc_sortTN ?_ | with_reducible refine wc_sortLK ?_
  | ((with_reducible refine wr_catN ?_ ?_); focus (first | omega | skip)) | ((with_reducible refine wr_catN1 ?_ ?_); focus (first | omega | skip)) | ((with_reducible refine wr_catN2 ?_ ?_); focus (first | omega | skip))
  | with_reducible refine ⟨_, _, _, rfl, ?_⟩ | with_reducible refine ⟨_, _, _, _, rfl, ?_⟩
  | with_reducible refine wr_catT (xs := [_, _]) (ys := [_]) cat21 ?_ | with_reducible refine wr_catT (xs := [_, _]) (ys := [_, _]) cat22 ?_
  | with_reducible refine ⟨rfl, ?_⟩
  | assumption
  | with_reducible refine wx_callP (A := pr__law_chance) ?_ | with_reducible refine use__law_chance ?_
  | with_reducible refine wx_callP (A := pr__law_worth) ?_ | with_reducible refine use__law_worth ?_
  | fail)))

theorem ok__law_ties (T : Txt K mg) (G_law_chance : FnOk P w K mg base CX0 3 T._law_chance.f T._law_chance.fd ["_law_number", "_law_kind"] (spD P w K pr__law_chance)) (G_law_next : FnOk P w K mg base CX0 1 T._law_next.f T._law_next.fd ["_law_drawn"] (spD P w K pr__law_next)) (G_law_worth : FnOk P w K mg base CX0 1 T._law_worth.f T._law_worth.fd ["_law_number", "_law_kind"] (spD P w K pr__law_worth)) : FnOk P w K mg base CX0 4 T._law_ties.f T._law_ties.fd ["_law_drawn", "_law_things", "_law_many"] (spD P w K pr__law_ties) := by
  refine fnD T._law_ties.F sc__law_ties len__law_ties (fun cdv Ar outer s H E hr => ⟨_, (pss_cons (ps_set (i := 3) sc__law_ties.nd rfl (by first | exact Or.inl rfl | exact Or.inr rfl) (pe_op op_mod (pe_call G_law_next (hr.mono (by decide)) rfl T._law_next.g T._law_next.F.kp T._law_next.b .nil pass0 (pa_cons (pv 0) pa_nil)) pe_int))
    (pss_cons (ps_set (i := 4) sc__law_ties.nd rfl (by first | exact Or.inl rfl | exact Or.inr rfl) (pe_op op_mod (pe_call G_law_next (hr.mono (by decide)) rfl T._law_next.g T._law_next.F.kp T._law_next.b .nil pass0 (pa_cons (pv 0) pa_nil)) pe_int))
    (pss_cons (ps_set (i := 5) sc__law_ties.nd rfl (by first | exact Or.inl rfl | exact Or.inr rfl) (pe_op op_mod (pe_call G_law_next (hr.mono (by decide)) rfl T._law_next.g T._law_next.F.kp T._law_next.b .nil pass0 (pa_cons (pv 0) pa_nil)) pe_int))
    (pss_cons (ps_set (i := 6) sc__law_ties.nd rfl (by first | exact Or.inl rfl | exact Or.inr rfl) (pe_lst pa_nil))
    (pss_cons (ps_for PassesOwn.never rfl (pi_range1 rfl T.range (pa_cons (pv 2) pa_nil)) (pg_name (i := 7) sc__law_ties.nd rfl (by first | exact Or.inl rfl | exact Or.inr rfl))
    (pss_cons (ps_set (i := 8) sc__law_ties.nd rfl (by first | exact Or.inl rfl | exact Or.inr rfl) (pe_call G_law_next (hr.mono (by decide)) rfl T._law_next.g T._law_next.F.kp T._law_next.b .nil pass0 (pa_cons (pv 0) pa_nil)))
     (pss_cons (ps_set (i := 9) sc__law_ties.nd rfl (by first | exact Or.inl rfl | exact Or.inr rfl) (pe_ix (show IxR _ (rIxL K) from ix_list) (pe_lst (pa_cons (pe_op op_mod (pv 8) (pv 1)) (pa_cons pe_int (pa_cons (pe_op op_mod (pv 7) (pv 1)) (pa_cons (pe_op op_mod (pv 8) (pv 1)) (pa_cons (pe_op op_mod (pv 8) pe_int) (pa_cons (pe_op op_mod (pv 8) (pv 1)) pa_nil))))))) (pv 3) (fun _ _ => rfl)))
     (pss_cons (ps_set (i := 10) sc__law_ties.nd rfl (by first | exact Or.inl rfl | exact Or.inr rfl) (pe_op op_mod (pe_op op_add (pe_op op_add (pv 9) pe_int) (pe_op op_mod (pe_op op_fdivW (pv 8) pe_int) (pe_op op_sub (pv 1) pe_int))) (pv 1)))
     (pss_cons (ps_if (pt_cmpR op_eq (pv 3) pe_int (nomark _)) (pss_one (ps_asg (pe_tup (pa_cons pe_int (pa_cons pe_int pa_nil))) (show PG _ _ (gTup K 2 _) from pg_tup (n := 2) rfl (pgs_cons (pg_name (i := 9) sc__law_ties.nd rfl (by first | exact Or.inl rfl | exact Or.inr rfl)) (pgs_cons (pg_name (i := 10) sc__law_ties.nd rfl (by first | exact Or.inl rfl | exact Or.inr rfl)) pgs_nil))))) pss_nil)
     (pss_cons (ps_set (i := 11) sc__law_ties.nd rfl (by first | exact Or.inl rfl | exact Or.inr rfl) (pe_call G_law_next (hr.mono (by decide)) rfl T._law_next.g T._law_next.F.kp T._law_next.b .nil pass0 (pa_cons (pv 0) pa_nil)))
     (pss_cons (ps_set (i := 12) sc__law_ties.nd rfl (by first | exact Or.inl rfl | exact Or.inr rfl) (pe_tup (pa_cons (pe_callB (show CallR _ _ rMin2 from call_min2 rfl) (by rfl) T.min PyProof.Rows.boot_min (pa_cons (pv 9) (pa_cons (pv 10) pa_nil))) (pa_cons (pe_callB (show CallR _ _ rMax2 from call_max2 rfl) (by rfl) T.max PyProof.Rows.boot_max (pa_cons (pv 9) (pa_cons (pv 10) pa_nil))) pa_nil))))
     (pss_one (ps_expr (show PE _ _ (tBM K "list" rAppend _ _) from pe_bm PySem.F.plainAttrs_list PySem.F.slot_list_append PySem.F.type_list_append mt_append (pv 6) (pa_cons (pe_op (show OpR _ _ (rCatA K) from op_catA) (pv 12) (pe_tup (pa_cons (pe_call G_law_chance (hr.mono (by decide)) rfl T._law_chance.g T._law_chance.F.kp T._law_chance.b .nil pass0 (pa_cons (pv 11) (pa_cons (pv 4) pa_nil))) (pa_cons (pe_call G_law_worth (hr.mono (by decide)) rfl T._law_worth.g T._law_worth.F.kp T._law_worth.b .nil pass0 (pa_cons (pe_op op_fdivW (pv 11) pe_int) (pa_cons (pv 5) pa_nil))) pa_nil)))) pa_nil)))))))))))
    (pss_one (ps_ret (pe_callTy (show CallR _ _ (rTupOf K) from call_tuple_of) (by rfl) T.tuple PyProof.Rows.boot_tuple (pa_cons (pv 6) pa_nil))))))))), fun as m W h => ?_⟩)
  try dsimp only [cxOf, Cx.nox, Cx.wish]
  obtain ⟨d, l, th, n, rfl, rfl, hD, h2, h1, hn, k⟩ := h
  walk_at "dl"
  refine wx_call1 ?_
  walk_at "dl"
  refine ⟨0, _, _, rfl, use__law_next hD fun x1 l1 hx1 hD1 => ?_⟩
  walk_at "dl"
  refine wx_call1 ?_
  walk_at "dl"
  refine ⟨0, _, _, rfl, use__law_next hD1 fun x2 l2 hx2 hD2 => ?_⟩
  walk_at "dl"
  refine wx_call1 ?_
  walk_at "dl"
  refine ⟨0, _, _, rfl, use__law_next hD2 fun x3 l3 hx3 hD3 => ?_⟩
  walk_at "dl"
  intro f
  have hshape : x1 % 6 < 6 := Nat.mod_lt _ (by decide)
  generalize x1 % 6 = sh at hshape ⊢
  generalize x2 % 4 = od
  generalize x3 % 4 = wo
  walk_at "dl"
  refine ⟨by omega, fun i S' => ∃ (l : List Nat) (ts : List Tie) (o7 o8 o9 o10 o11 o12 : Option Arg), Dr l ∧ ts.length = i ∧ (∀ T ∈ ts, TieOk th T) ∧ S' = ⟨[some (.a d), some (.d (dN th)), some (.d (dN n)), some (.d (dN sh)), some (.d (dN od)), some (.d (dN wo)), some (.a f), o7, o8, o9, o10, o11, o12],
    [(d, dr l, true), (f, .lst ((ts.map dTie).map Arg.d), true)]⟩, ⟨l3, [], none, none, none, none, none, none, hD3, rfl, (fun _ h => absurd h List.not_mem_nil), rfl⟩, ?_, ?_⟩
  · rintro i S' hi ⟨l, ts, o7, o8, o9, o10, o11, o12, hD, hts, hok, rfl⟩
    refine ws_cut (fun S1 => ∃ l x, Dr l ∧ S1 = ⟨[some (.a d), some (.d (dN th)), some (.d (dN n)), some (.d (dN sh)), some (.d (dN od)), some (.d (dN wo)), some (.a f), some (.d (dN i)), some (.d (dN x)), o9, o10, o11, o12], [(d, dr l, true), (f, .lst ((ts.map dTie).map Arg.d), true)]⟩) ?_ ?_
    · walk_at "dl"
      refine wx_call1 ?_
      walk_at "dl"
      refine ⟨0, _, _, rfl, use__law_next hD fun x1 l1 hx1 hD1 => ?_⟩
      walk_at "dl"
      exact ⟨l1, x1, hD1, rfl⟩
    rintro S1 ⟨l, x, hD, rfl⟩
    refine ws_cut (fun S1 => ∃ a, a < th ∧ S1 = ⟨[some (.a d), some (.d (dN th)), some (.d (dN n)), some (.d (dN sh)), some (.d (dN od)), some (.d (dN wo)), some (.a f), some (.d (dN i)), some (.d (dN x)), some (.d (dN a)), o10, o11, o12], [(d, dr l, true), (f, .lst ((ts.map dTie).map Arg.d), true)]⟩) ?_ ?_
    · walk_at "dl"
      refine wx_lst (wa_cons ?_)
      walk_at "dl"
      refine ⟨len_le rfl, fun q => ?_⟩
      walk_at "dl"
      obtain ⟨a, ha, e⟩ := shapes (n := x) (k := i) hshape h2
      refine wr_ixZ (atI_nat e) ?_
      walk_at "dl"
      exact ⟨a, ha, rfl⟩
    rintro S1 ⟨a, ha, rfl⟩
    refine ws_cut (fun S1 => ∃ b, b < th ∧ S1 = ⟨[some (.a d), some (.d (dN th)), some (.d (dN n)), some (.d (dN sh)), some (.d (dN od)), some (.d (dN wo)), some (.a f), some (.d (dN i)), some (.d (dN x)), some (.d (dN a)), some (.d (dN b)), o11, o12], [(d, dr l, true), (f, .lst ((ts.map dTie).map Arg.d), true)]⟩) ?_ ?_
    · walk_at "dl"
      exact ⟨_, Nat.mod_lt _ (by omega), rfl⟩
    rintro S1 ⟨b, hb, rfl⟩
    refine ws_cut (fun S1 => ∃ a b, a < th ∧ b < th ∧ S1 = ⟨[some (.a d), some (.d (dN th)), some (.d (dN n)), some (.d (dN sh)), some (.d (dN od)), some (.d (dN wo)), some (.a f), some (.d (dN i)), some (.d (dN x)), some (.d (dN a)), some (.d (dN b)), o11, o12], [(d, dr l, true), (f, .lst ((ts.map dTie).map Arg.d), true)]⟩) ?_ ?_
    · walk_at "dl"
      refine ⟨fun _ => ?_, fun _ => ?_⟩
      · walk_at "dl"
        exact ⟨0, 1, by omega, by omega, rfl⟩
      · walk_at "dl"
        exact ⟨a, b, ha, hb, rfl⟩
    rintro S1 ⟨a, b, ha, hb, rfl⟩
    walk_at "dl"
    refine wx_call1 ?_
    walk_at "dl"
    refine ⟨0, _, _, rfl, use__law_next hD fun x4 l4 hx4 hD4 => ?_⟩
    walk_at "dl"
    refine wx_app ?_
    walk_at "dl"
    refine ⟨_, 1, _, _, rfl, rfl, ?_⟩
    walk_at "dl"
    intro c hc
    walk_at "dl"
    intro wt hwt
    walk_at "dl"
    refine ⟨_, _, rfl, rfl, by rw [List.length_map, List.length_map, hts]; omega, ?_⟩
    refine ⟨_, Le.refl _, l4, ts ++ [⟨min a b, max a b, c, wt⟩], some (.d (dN i)), some (.d (dN x)), some (.d (dN a)), some (.d (dN b)), some (.d (dN x4)), some (.d (.tup [dN (min a b), dN (max a b)])), hD4, by rw [List.length_append, hts]; rfl, ?_, ?_⟩
    · intro T hT
      rcases List.mem_append.mp hT with q | q
      · exact hok T q
      · rw [List.mem_singleton.mp q]
        exact ⟨show min a b < th by omega, show max a b < th by omega, hc, hwt⟩
    · rw [List.map_append, List.map_append]
      rfl
  · rintro S' ⟨l, ts, o7, o8, o9, o10, o11, o12, hD, hts, hok, rfl⟩
    walk_at "dl"
    refine wc_tupL (n := 1) rfl ?_
    exact ⟨_, k ts l hts hok hD, List.sublist_append_left [_] [_]⟩
end
end Dl

/-! a drawn web -/
namespace Dl
open PySem PySem.Spec L2
open Km (Web Stand Wide Known Groups WebOk Node Tie TieOk)
theorem wc_intBN {B : Bs} {S : Sy} {F : Arg → Sy → Prop} {b : Bool} (k : F (.d (dN (if b = true then 1 else 0))) S) : WC B rInt1 [.d (.bl b)] S F := wc_intB (by
  rw [show (if b = true then (1 : Int) else 0) = ((if b = true then 1 else 0 : Nat) : Int) by cases b <;> rfl]
  exact k)
section
variable {P : Program} {w : World} {K : PySem.W.Frag} {mg : Str → Option Value} {base : Heap}
def pr__law_web : Prom := fun as m U => ∃ (d : Addr) (l : List Nat) (most th : Nat), as = [.a d, .d (dN most), .d (dN th)] ∧ m = [(d, dr l, true)] ∧ Dr l ∧ most ≤ 50 ∧ th ≤ 5 ∧ ∀ (W : Web) (l' : List Nat), WebOk W → Dr l' → U (.d (dW W)) [(d, dr l', true)]
theorem use__law_web {U : Arg → List Ob → Prop} {d : Addr} {l : List Nat} {most th : Nat} (hD : Dr l) (h1 : most ≤ 50) (h2 : th ≤ 5) (k : ∀ (W : Web) (l' : List Nat), WebOk W → Dr l' → U (.d (dW W)) [(d, dr l', true)]) :
    pr__law_web [.a d, .d (dN most), .d (dN th)] [(d, dr l, true)] U := ⟨d, l, most, th, rfl, rfl, hD, h1, h2, k⟩
theorem len__law_web (as m W) (h : pr__law_web as m W) : as.length = 3 := by obtain ⟨_, _, _, _, rfl, _⟩ := h; rfl
theorem three {a : Int} {b c r : Nat} (ha : 0 ≤ a) (hr : r < 3) : ∃ x : Nat, [Arg.d (.int a), Arg.d (dN b), Arg.d (dN c)][r]? = some (.d (dN x)) := by
  match r, hr with
  | 0, _ => exact ⟨a.toNat, by show some (Arg.d (.int a)) = some (.d (.int ((a.toNat : Nat) : Int))); rw [Int.toNat_of_nonneg ha]⟩
  | 1, _ => exact ⟨b, rfl⟩
  | 2, _ => exact ⟨c, rfl⟩
  | r + 3, h => omega
theorem nx_mod {x b : Nat} (h : 0 < b) : x % b < b := Nat.mod_lt _ h
set_option hygiene false in
local macro_rules | `(tactic| walk_at "dl") => `(tactic| (repeat' (first
  | with_reducible refine wx_op ?_ | with_reducible refine wx_int ?_ | with_reducible refine wx_bl ?_ | with_reducible refine wx_non ?_ | with_reducible refine wa_cons ?_ | with_reducible refine wa_nil ?_
  | ((with_reducible apply wx_var); focus exact rfl)
  | with_reducible refine wx_tup ?_ | with_reducible refine wx_cb ?_ | with_reducible refine wx_negC ?_ | with_reducible refine wx_lst0 ?_
  | with_reducible refine ws_ret ?_ | with_reducible refine ws_seq ?_ | with_reducible refine ws_asg ?_ | with_reducible refine ws_drop ?_ | with_reducible refine ws_next ?_ | with_reducible refine ws_if ?_ | with_reducible refine ws_par ?_
  | with_reducible refine wt_test ?_ | with_reducible refine wt_b ?_ | with_reducible refine wt_not ?_ | with_reducible refine wt_and ?_ | with_reducible refine wt_or ?_
  | with_reducible refine wg_name ?_ | with_reducible refine wg_tup2 ?_ | with_reducible refine wg_tup3 ?_
  | ((with_reducible refine wr_modC ?_ ?_); (focus exact Nat.zero_lt_succ _)) | ((with_reducible refine wr_modN ?_ ?_); (focus first | omega | assumption)) | ((with_reducible refine wr_divC ?_ ?_ ?_); (focus exact Nat.zero_lt_succ _); (focus exact Nat.le_of_ble_eq_true rfl))
  | with_reducible refine wr_addN ?_ | with_reducible refine wr_addL ?_ | with_reducible refine wr_addR ?_ | ((with_reducible refine wr_subR ?_ ?_); (focus omega)) | ((with_reducible refine wr_subL ?_ ?_); (focus omega))
  | ((with_reducible refine wr_mulN ?_ ?_); (focus omega)) | ((with_reducible refine wr_mulL ?_ ?_); (focus exact Nat.le_of_ble_eq_true rfl))
  | with_reducible refine wc_maxN ?_ | with_reducible refine wc_maxL ?_ | with_reducible refine wc_minN ?_
  | with_reducible refine wc_minR ?_ | with_reducible refine wc_lenS ?_ | with_reducible refine wc_absN ?_ | with_reducible refine wr_pow18 ?_
  | with_reducible refine wc_intBN ?_
  | with_reducible refine wr_i0 ?_ | with_reducible refine wr_b0 ?_ | with_reducible refine wr_eqI ?_ | with_reducible refine wr_neI ?_ | with_reducible refine wr_i ?_ ?_
  | ((with_reducible apply wr_ixT); focus exact rfl)
  | with_reducible refine wc_abs ?_ | with_reducible refine wc_lenM ?_ | with_reducible refine wc_lenT ?_ | with_reducible refine wc_max2 ?_ | with_reducible refine wc_min2 ?_ | with_reducible refine wc_intB ?_
  | with_reducible refine ⟨_, rfl, ?_⟩ | with_reducible refine ⟨_, _, rfl, ?_⟩
  | with_reducible refine ⟨[_], map1, len1, ?_⟩ | with_reducible refine ⟨[_, _], map2, len2, ?_⟩ | with_reducible refine ⟨[_, _, _], map3, len3, ?_⟩ | with_reducible refine ⟨[_, _, _, _], map4, len4, ?_⟩ | with_reducible refine ⟨[], map0, len0, ?_⟩
  | with_reducible refine wx_lcT ?_ | with_reducible refine wx_lcT2 ?_ | with_reducible refine wx_lcL ?_ | with_reducible refine wx_lcR ?_ | with_reducible refine wx_lcE ?_ | with_reducible refine wx_cut2 ?_ | with_reducible refine wx_cut_2 ?_ | with_reducible refine wt_yes ?_
  | with_reducible refine ws_forT ?_ | with_reducible refine ws_forL ?_ | with_reducible refine ws_forV ?_ | with_reducible refine ws_forR ?_ | with_reducible refine ws_forE ?_ | with_reducible refine ws_forZ ?_
  | with_reducible refine wr_inN ?_ | with_reducible refine wr_inN2 ?_ | ((with_reducible apply wr_ixT); focus exact tie_at (by assumption)) | ((with_reducible apply wr_ixT); focus exact pat_at (by assumption))
  | with_reducible refine wc_tupZ ?_ | with_reducible refine wc_lenZ ?_ | with_reducible refine wc_allZ ?_ | with_reducible refine wc_sumZ ?_ | with_reducible refine wc_sortTN ?_ | with_reducible refine wc_sortLK ?_
  | ((with_reducible refine wr_catN ?_ ?_); focus (first | omega | skip)) | ((with_reducible refine wr_catN1 ?_ ?_); focus (first | omega | skip)) | ((with_reducible refine wr_catN2 ?_ ?_); focus (first | omega | skip))
  | with_reducible refine ⟨_, _, _, rfl, ?_⟩ | with_reducible refine ⟨_, _, _, _, rfl, ?_⟩
  | with_reducible refine wr_catT (xs := [_, _]) (ys := [_]) cat21 ?_ | with_reducible refine wr_catT (xs := [_, _]) (ys := [_, _]) cat22 ?_
  | with_reducible refine ⟨rfl, ?_⟩
  | assumption
  | fail)))

theorem ok__law_web (T : Txt K mg) (G_law_next : FnOk P w K mg base CX0 1 T._law_next.f T._law_next.fd ["_law_drawn"] (spD P w K pr__law_next)) (G_law_ties : FnOk P w K mg base CX0 4 T._law_ties.f T._law_ties.fd ["_law_drawn", "_law_things", "_law_many"] (spD P w K pr__law_ties)) : FnOk P w K mg base CX0 5 T._law_web.f T._law_web.fd ["_law_drawn", "_law_most", "_law_ties_here"] (spD P w K pr__law_web) := by
  refine fnD T._law_web.F sc__law_web len__law_web (fun cdv Ar outer s H E hr => ⟨_, (pss_cons (ps_set (i := 3) sc__law_web.nd rfl (by first | exact Or.inl rfl | exact Or.inr rfl) (pe_op op_mod (pe_call G_law_next (hr.mono (by decide)) rfl T._law_next.g T._law_next.F.kp T._law_next.b .nil pass0 (pa_cons (pv 0) pa_nil)) (pe_op op_add (pv 1) pe_int)))
    (pss_cons (ps_set (i := 4) sc__law_web.nd rfl (by first | exact Or.inl rfl | exact Or.inr rfl) (pe_op op_mul (pe_op op_mod (pe_call G_law_next (hr.mono (by decide)) rfl T._law_next.g T._law_next.F.kp T._law_next.b .nil pass0 (pa_cons (pv 0) pa_nil)) (pe_op op_add (pv 2) pe_int)) (pe_callTy (show CallR _ _ rInt1 from call_int1) (by rfl) T.int PyProof.Rows.boot_int (pa_cons (pe_cmpR op_gt (pv 3) pe_int (nomark _)) pa_nil))))
    (pss_cons (ps_set (i := 5) sc__law_web.nd rfl (by first | exact Or.inl rfl | exact Or.inr rfl) (pe_call G_law_ties (hr.mono (by decide)) rfl T._law_ties.g T._law_ties.F.kp T._law_ties.b .nil pass0 (pa_cons (pv 0) (pa_cons (pe_callB (show CallR _ _ rMax2 from call_max2 rfl) (by rfl) T.max PyProof.Rows.boot_max (pa_cons pe_int (pa_cons (pv 3) pa_nil))) (pa_cons (pv 4) pa_nil)))))
    (pss_cons (ps_set (i := 6) sc__law_web.nd rfl (by first | exact Or.inl rfl | exact Or.inr rfl) (pe_op op_mod (pe_call G_law_next (hr.mono (by decide)) rfl T._law_next.g T._law_next.F.kp T._law_next.b .nil pass0 (pa_cons (pv 0) pa_nil)) pe_int))
    (pss_cons (ps_set (i := 7) sc__law_web.nd rfl (by first | exact Or.inl rfl | exact Or.inr rfl) (pe_lst pa_nil))
    (pss_cons (ps_for PassesOwn.never rfl (pi_range1 rfl T.range (pa_cons (pv 3) pa_nil)) (pg_name (i := 8) sc__law_web.nd rfl (by first | exact Or.inl rfl | exact Or.inr rfl))
    (pss_one (ps_expr (show PE _ _ (tBM K "list" rAppend _ _) from pe_bm PySem.F.plainAttrs_list PySem.F.slot_list_append PySem.F.type_list_append mt_append (pv 7) (pa_cons (pe_ix (show IxR _ (rIxL K) from ix_list) (pe_lst (pa_cons pe_int (pa_cons (pe_op op_add pe_int (pe_op op_mod (pe_call G_law_next (hr.mono (by decide)) rfl T._law_next.g T._law_next.F.kp T._law_next.b .nil pass0 (pa_cons (pv 0) pa_nil)) pe_int)) (pa_cons (pe_op op_mod (pe_call G_law_next (hr.mono (by decide)) rfl T._law_next.g T._law_next.F.kp T._law_next.b .nil pass0 (pa_cons (pv 0) pa_nil)) pe_int) pa_nil)))) (pv 6) (fun _ _ => rfl)) pa_nil)))))
    (pss_cons (ps_set (i := 9) sc__law_web.nd rfl (by first | exact Or.inl rfl | exact Or.inr rfl) (pe_ix (show IxR _ (rIxL K) from ix_list) (pe_lst (pa_cons pe_int (pa_cons (pe_op op_add pe_int (pe_op op_mod (pe_call G_law_next (hr.mono (by decide)) rfl T._law_next.g T._law_next.F.kp T._law_next.b .nil pass0 (pa_cons (pv 0) pa_nil)) (pe_callB (show CallR _ _ rMax2 from call_max2 rfl) (by rfl) T.max PyProof.Rows.boot_max (pa_cons pe_int (pa_cons (pv 4) pa_nil))))) (pa_cons (pe_op op_mod (pe_call G_law_next (hr.mono (by decide)) rfl T._law_next.g T._law_next.F.kp T._law_next.b .nil pass0 (pa_cons (pv 0) pa_nil)) pe_int) pa_nil)))) (pe_op op_mod (pe_call G_law_next (hr.mono (by decide)) rfl T._law_next.g T._law_next.F.kp T._law_next.b .nil pass0 (pa_cons (pv 0) pa_nil)) pe_int) (fun _ _ => rfl)))
    (pss_one (ps_ret (pe_tup (pa_cons (pv 3) (pa_cons (pv 5) (pa_cons (pe_callTy (show CallR _ _ (rTupOf K) from call_tuple_of) (by rfl) T.tuple PyProof.Rows.boot_tuple (pa_cons (pv 7) pa_nil)) (pa_cons (pv 9) pa_nil)))))))))))))), fun as m W h => ?_⟩)
  try dsimp only [cxOf, Cx.nox, Cx.wish]
  obtain ⟨d, l, most, th, rfl, rfl, hD, hm, hth, k⟩ := h
  refine ws_cut (fun S1 => ∃ l things, Dr l ∧ things ≤ most ∧ S1 = ⟨[some (.a d), some (.d (dN most)), some (.d (dN th)), some (.d (dN things)), none, none, none, none, none, none], [(d, dr l, true)]⟩) ?_ ?_
  · walk_at "dl"
    refine wx_call1 ?_
    walk_at "dl"
    refine ⟨0, _, _, rfl, use__law_next hD fun x1 l1 hx1 hD1 => ?_⟩
    walk_at "dl"
    exact ⟨l1, x1 % (most + 1), hD1, Nat.le_of_lt_succ (nx_mod (Nat.succ_pos _)), rfl⟩
  rintro S1 ⟨l, things, hD, hth2, rfl⟩
  refine ws_cut (fun S1 => ∃ l many, Dr l ∧ many ≤ 5 ∧ (things ≤ 1 → many = 0) ∧ S1 = ⟨[some (.a d), some (.d (dN most)), some (.d (dN th)), some (.d (dN things)), some (.d (dN many)), none, none, none, none, none], [(d, dr l, true)]⟩) ?_ ?_
  · walk_at "dl"
    refine wx_call1 ?_
    walk_at "dl"
    refine ⟨0, _, _, rfl, use__law_next hD fun x1 l1 hx1 hD1 => ?_⟩
    have hx := nx_mod (x := x1) (b := th + 1) (Nat.succ_pos _)
    walk_at "dl"
    refine ⟨l1, _, hD1, ?_, ?_, rfl⟩
    · split <;> omega
    · intro q
      rw [if_neg]
      · omega
      · intro z
        have := of_decide_eq_true z
        omega
  rintro S1 ⟨l, many, hD, hmany, hzero, rfl⟩
  refine ws_cut (fun S1 => ∃ (l : List Nat) (ts : List Tie), Dr l ∧ ts.length = many ∧ (∀ T ∈ ts, TieOk (max 2 things) T) ∧ S1 = ⟨[some (.a d), some (.d (dN most)), some (.d (dN th)), some (.d (dN things)), some (.d (dN many)), some (.d (.tup (ts.map dTie))), none, none, none, none], [(d, dr l, true)]⟩) ?_ ?_
  · walk_at "dl"
    refine wx_call1 ?_
    walk_at "dl"
    refine ⟨0, _, _, rfl, use__law_ties hD (by show 2 ≤ max 2 things; omega) (by show max 2 things ≤ 100; omega) hmany fun ts l1 hts hok hD1 => ?_⟩
    walk_at "dl"
    exact ⟨l1, ts, hD1, hts, hok, rfl⟩
  rintro S1 ⟨l, ts, hD, hts, hok, rfl⟩
  refine ws_cut (fun S1 => ∃ (l : List Nat) (way : Nat), Dr l ∧ way < 3 ∧ S1 = ⟨[some (.a d), some (.d (dN most)), some (.d (dN th)), some (.d (dN things)), some (.d (dN many)), some (.d (.tup (ts.map dTie))), some (.d (dN way)), none, none, none], [(d, dr l, true)]⟩) ?_ ?_
  · walk_at "dl"
    refine wx_call1 ?_
    walk_at "dl"
    refine ⟨0, _, _, rfl, use__law_next hD fun x1 l1 hx1 hD1 => ?_⟩
    walk_at "dl"
    exact ⟨l1, x1 % 3, hD1, nx_mod (by decide), rfl⟩
  rintro S1 ⟨l, way, hD, hway, rfl⟩
  refine ws_cut (fun S1 => ∃ pt, S1 = ⟨[some (.a d), some (.d (dN most)), some (.d (dN th)), some (.d (dN things)), some (.d (dN many)), some (.d (.tup (ts.map dTie))), some (.d (dN way)), some (.a pt), none, none], [(d, dr l, true), (pt, .lst [], true)]⟩) ?_ ?_
  · walk_at "dl"
    intro pt
    walk_at "dl"
    exact ⟨pt, rfl⟩
  rintro S1 ⟨pt, rfl⟩
  refine ws_cut (fun S1 => ∃ (l pat : List Nat) (o8 : Option Arg), Dr l ∧ pat.length = things ∧ S1 = ⟨[some (.a d), some (.d (dN most)), some (.d (dN th)), some (.d (dN things)), some (.d (dN many)), some (.d (.tup (ts.map dTie))), some (.d (dN way)), some (.a pt), o8, none], [(d, dr l, true), (pt, .lst ((pat.map dN).map Arg.d), true)]⟩) ?_ ?_
  · walk_at "dl"
    refine ⟨by omega, fun i S1 => ∃ (l pat : List Nat) (o8 : Option Arg), Dr l ∧ pat.length = i ∧ S1 = ⟨[some (.a d), some (.d (dN most)), some (.d (dN th)), some (.d (dN things)), some (.d (dN many)), some (.d (.tup (ts.map dTie))), some (.d (dN way)), some (.a pt), o8, none], [(d, dr l, true), (pt, .lst ((pat.map dN).map Arg.d), true)]⟩, ⟨l, [], none, hD, rfl, rfl⟩, ?_, ?_⟩
    · rintro i S' hi ⟨l, pat, o8, hD, hp, rfl⟩
      walk_at "dl"
      refine wx_app ?_
      walk_at "dl"
      refine ⟨_, 1, _, _, rfl, rfl, ?_⟩
      walk_at "dl"
      refine wx_lst (wa_cons ?_)
      walk_at "dl"
      refine wx_call1 ?_
      walk_at "dl"
      refine ⟨0, _, _, rfl, use__law_next hD fun x1 l1 hx1 hD1 => ?_⟩
      walk_at "dl"
      refine wx_call1 ?_
      walk_at "dl"
      refine ⟨0, _, _, rfl, use__law_next hD1 fun x2 l2 hx2 hD2 => ?_⟩
      walk_at "dl"
      refine ⟨len_le rfl, fun q => ?_⟩
      walk_at "dl"
      obtain ⟨x, hx⟩ := three (a := 20) (b := 1 + x1 % 3) (c := x2 % 21) (by decide) hway
      refine wr_ixZ (atI_nat hx) ?_
      walk_at "dl"
      refine ⟨_, _, rfl, rfl, by rw [dr_len]; omega, ?_⟩
      rw [dr_snoc]
      exact ⟨_, Le.refl _, l2, pat ++ [x], some (.d (dN i)), hD2, by rw [List.length_append, hp]; rfl, rfl⟩
    · rintro S' ⟨l, pat, o8, hD, hp, rfl⟩
      exact ⟨l, pat, o8, hD, hp, rfl⟩
  rintro S1 ⟨l, pat, o8, hD, hp, rfl⟩
  walk_at "dl"
  refine wx_lst (wa_cons ?_)
  walk_at "dl"
  refine wx_call1 ?_
  walk_at "dl"
  refine ⟨0, _, _, rfl, use__law_next hD fun x1 l1 hx1 hD1 => ?_⟩
  walk_at "dl"
  refine wx_call1 ?_
  walk_at "dl"
  refine ⟨0, _, _, rfl, use__law_next hD1 fun x2 l2 hx2 hD2 => ?_⟩
  walk_at "dl"
  refine ⟨len_le rfl, fun q => ?_⟩
  walk_at "dl"
  refine wx_call1 ?_
  walk_at "dl"
  refine ⟨0, _, _, rfl, use__law_next hD2 fun x3 l3 hx3 hD3 => ?_⟩
  walk_at "dl"
  obtain ⟨x, hx⟩ := three (a := 40) (b := 1 + x1 % max 1 many) (c := x2 % 41) (r := x3 % 3) (by decide) (nx_mod (by decide))
  refine wr_ixL (n := 2) rfl (atI_nat hx) ?_
  walk_at "dl"
  refine wc_tupL (n := 1) rfl ?_
  walk_at "dl"
  refine ⟨_, k ⟨things, ts, pat, x⟩ l3 ⟨?_, hp, ?_, ?_⟩ hD3, List.sublist_append_left [_] [_, _]⟩
  · intro T hT
    by_cases q : things ≤ 1
    · have : ts = [] := List.eq_nil_of_length_eq_zero (by rw [hts, hzero q])
      rw [this] at hT
      cases hT
    · have := hok T hT
      rw [show max 2 things = things by omega] at this
      exact this
  · show ts.length ≤ 5
    omega
  · show things ≤ 100
    omega
end
end Dl

/-! drawn groups -/
namespace Dl
open PySem PySem.Spec L2
open Km (Web Stand Wide Known Groups WebOk Node Tie TieOk GroupsOk)
abbrev gAt (ps : Nat → Addr) (gs : List (List Nat)) (i : Nat) : Ob := (ps i, dr (gs.getD i []), true)
abbrev gObs (ps : Nat → Addr) (gs : List (List Nat)) : List Ob := (List.range gs.length).map (gAt ps gs)
abbrev gLst (ps : Nat → Addr) (n : Nat) : List Arg := (List.range n).map fun i => Arg.a (ps i)
theorem gObs_at {ps : Nat → Addr} {gs : List (List Nat)} {i : Nat} (h : i < gs.length) : (gObs ps gs)[i]? = some (gAt ps gs i) := by
  rw [List.getElem?_map, List.getElem?_range h]; rfl
theorem gLst_at {ps : Nat → Addr} {n i : Nat} (h : i < n) : (gLst ps n)[i]? = some (.a (ps i)) := by
  rw [List.getElem?_map, List.getElem?_range h]; rfl
theorem gObs_set {ps : Nat → Addr} {gs : List (List Nat)} {j : Nat} (h : j < gs.length) (x : List Nat) : (gObs ps gs).set j (ps j, dr x, true) = gObs ps (gs.set j x) := by
  refine List.ext_getElem? fun i => ?_
  rw [List.getElem?_set]
  by_cases hi : i < gs.length
  · by_cases hj : j = i
    · subst hj
      rw [if_pos rfl, if_pos (by simpa using h), gObs_at (by rw [List.length_set]; exact h)]
      show some (ps j, dr x, true) = some (ps j, dr ((gs.set j x).getD j []), true)
      rw [List.getD_eq_getElem?_getD, List.getElem?_set, if_pos rfl, if_pos h]
      rfl
    · rw [if_neg hj, gObs_at hi, gObs_at (by rw [List.length_set]; exact hi)]
      show some (ps i, dr (gs.getD i []), true) = some (ps i, dr ((gs.set j x).getD i []), true)
      rw [List.getD_eq_getElem?_getD, List.getD_eq_getElem?_getD, List.getElem?_set, if_neg hj]
  · have e1 : (gObs ps gs)[i]? = none := List.getElem?_eq_none (by simpa using hi)
    have e2 : (gObs ps (gs.set j x))[i]? = none := List.getElem?_eq_none (by simpa using hi)
    rw [if_neg (by omega), e1, e2]
def addP (ps : Nat → Addr) (n : Nat) (q : Addr) : Nat → Addr := fun i => if i = n then q else ps i
theorem gObs_new (ps : Nat → Addr) (gs : List (List Nat)) (q : Addr) (x : List Nat) : gObs ps gs ++ [(q, dr x, true)] = gObs (addP ps gs.length q) (gs ++ [x]) := by
  show (List.range gs.length).map (gAt ps gs) ++ _ = (List.range (gs ++ [x]).length).map _
  rw [show (gs ++ [x]).length = gs.length + 1 by simp, List.range_succ, List.map_append]
  congr 1
  · refine List.map_congr_left fun i hi => ?_
    have hi' := List.mem_range.mp hi
    show (ps i, dr (gs.getD i []), true) = (addP ps gs.length q i, dr ((gs ++ [x]).getD i []), true)
    unfold addP
    rw [if_neg (by omega), List.getD_eq_getElem?_getD, List.getD_eq_getElem?_getD, List.getElem?_append_left hi']
  · show _ = [(addP ps gs.length q gs.length, dr ((gs ++ [x]).getD gs.length []), true)]
    unfold addP
    rw [if_pos rfl]
    simp
theorem gLst_new (ps : Nat → Addr) (n : Nat) (q : Addr) : gLst ps n ++ [.a q] = gLst (addP ps n q) (n + 1) := by
  show _ = (List.range (n + 1)).map _
  rw [List.range_succ, List.map_append]
  congr 1
  · refine List.map_congr_left fun i hi => ?_
    have hi' := List.mem_range.mp hi
    unfold addP
    rw [if_neg (by omega)]
  · unfold addP
    simp
abbrev dflt : Tie := ⟨0, 0, (0, 1), 0⟩
/-- the groups so far -/
structure Part (th : Nat) (ts : List Tie) (gs : List (List Nat)) (i : Nat) : Prop where
  len : ts.length = i
  ok : ∀ T ∈ ts, TieOk th T
  few : gs.length ≤ i
  ne : ∀ g ∈ gs, g ≠ []
  lt : ∀ g ∈ gs, ∀ t ∈ g, t < i
  al : ∀ g ∈ gs, ∀ t ∈ g, (ts.getD t dflt).c = (ts.getD (g.headD 0) dflt).c
  has : ∀ t, t < i → ∃ g ∈ gs, t ∈ g
  sm : ∀ g ∈ gs, g.length ≤ i
theorem getD_left {α : Type} {l : List α} {i : Nat} {d x : α} (h : i < l.length) : (l ++ [x]).getD i d = l.getD i d := by
  rw [List.getD_eq_getElem?_getD, List.getD_eq_getElem?_getD, List.getElem?_append_left h]
theorem getD_last {α : Type} {l : List α} {i : Nat} {d x : α} (h : l.length = i) : (l ++ [x]).getD i d = x := by
  subst h
  rw [List.getD_eq_getElem?_getD]
  simp
theorem headD_mem {g : List Nat} (h : g ≠ []) : g.headD 0 ∈ g := by
  cases g with
  | nil => exact absurd rfl h
  | cons x r => exact List.mem_cons_self
theorem Part.new {th i : Nat} {ts : List Tie} {gs : List (List Nat)} (h : Part th ts gs i) {T : Tie} (hT : TieOk th T) : Part th (ts ++ [T]) (gs ++ [[i]]) (i + 1) where
  len := by rw [List.length_append, h.len]; rfl
  ok := fun X hX => by
    rcases List.mem_append.mp hX with q | q
    · exact h.ok X q
    · rw [List.mem_singleton.mp q]; exact hT
  few := by have := h.few; rw [List.length_append]; show gs.length + 1 ≤ _; omega
  ne := fun g hg => by
    rcases List.mem_append.mp hg with q | q
    · exact h.ne g q
    · rw [List.mem_singleton.mp q]; simp
  lt := fun g hg t ht => by
    rcases List.mem_append.mp hg with q | q
    · have := h.lt g q t ht; omega
    · rw [List.mem_singleton.mp q] at ht
      rw [List.mem_singleton.mp ht]; omega
  al := fun g hg t ht => by
    rcases List.mem_append.mp hg with q | q
    · have h1 := h.lt g q t ht
      have h2 := h.lt g q _ (headD_mem (h.ne g q))
      rw [getD_left (by rw [h.len]; exact h1), getD_left (by rw [h.len]; exact h2)]
      exact h.al g q t ht
    · rw [List.mem_singleton.mp q] at ht ⊢
      rw [List.mem_singleton.mp ht]
      rfl
  has := fun t ht => by
    by_cases q : t = i
    · exact ⟨[i], List.mem_append_right _ (List.mem_singleton.mpr rfl), by rw [q]; exact List.mem_singleton.mpr rfl⟩
    · obtain ⟨g, hg, hm⟩ := h.has t (by omega)
      exact ⟨g, List.mem_append_left _ hg, hm⟩
  sm := fun g hg => by
    rcases List.mem_append.mp hg with q | q
    · have := h.sm g q; omega
    · rw [List.mem_singleton.mp q]; show 1 ≤ _; omega
theorem Part.join {th i j : Nat} {ts : List Tie} {gs : List (List Nat)} (h : Part th ts gs i) {T : Tie} (hT : TieOk th T) (hj : j < gs.length) (hc : (ts.getD ((gs.getD j []).headD 0) dflt).c = T.c) : Part th (ts ++ [T]) (gs.set j (gs.getD j [] ++ [i])) (i + 1) := by
  have hgj : gs.getD j [] ∈ gs := getD_mem [] hj
  have hne := h.ne _ hgj
  have hhd : (gs.getD j [] ++ [i]).headD 0 = (gs.getD j []).headD 0 := by
    cases q : gs.getD j [] with
    | nil => exact absurd q hne
    | cons x r => rfl
  have mem : ∀ g ∈ gs.set j (gs.getD j [] ++ [i]), g ∈ gs ∨ g = gs.getD j [] ++ [i] := fun g hg => List.mem_or_eq_of_mem_set hg
  have old : ∀ g ∈ gs, ∀ t ∈ g, ((ts ++ [T]).getD t dflt).c = (ts.getD t dflt).c := fun g hg t ht => by
    rw [getD_left (by rw [h.len]; exact h.lt g hg t ht)]
  refine ⟨by rw [List.length_append, h.len]; rfl, fun X hX => ?_, by have := h.few; rw [List.length_set]; omega, fun g hg => ?_, fun g hg t ht => ?_, fun g hg t ht => ?_, fun t ht => ?_, fun g hg => ?_⟩
  · rcases List.mem_append.mp hX with q | q
    · exact h.ok X q
    · rw [List.mem_singleton.mp q]; exact hT
  · rcases mem g hg with q | rfl
    · exact h.ne g q
    · simp
  · rcases mem g hg with q | rfl
    · have := h.lt g q t ht; omega
    · rcases List.mem_append.mp ht with q | q
      · have := h.lt _ hgj t q; omega
      · rw [List.mem_singleton.mp q]; omega
  · rcases mem g hg with q | rfl
    · rw [old g q t ht, old g q _ (headD_mem (h.ne g q))]
      exact h.al g q t ht
    · rw [hhd, old _ hgj _ (headD_mem hne)]
      rcases List.mem_append.mp ht with q | q
      · rw [old _ hgj t q]
        exact h.al _ hgj t q
      · rw [List.mem_singleton.mp q, getD_last h.len, hc]
  · by_cases q : t = i
    · refine ⟨gs.getD j [] ++ [i], ?_, by rw [q]; exact List.mem_append_right _ (List.mem_singleton.mpr rfl)⟩
      exact List.mem_set hj _
    · obtain ⟨g, hg, hm⟩ := h.has t (by omega)
      obtain ⟨n, hn, e⟩ := List.getElem_of_mem hg
      by_cases hnj : j = n
      · refine ⟨gs.getD j [] ++ [i], List.mem_set hj _, List.mem_append_left _ ?_⟩
        subst hnj
        rw [← List.getElem_eq_getD [] (h := hn), e]
        exact hm
      · refine ⟨g, ?_, hm⟩
        rw [List.mem_iff_getElem?]
        exact ⟨n, by rw [List.getElem?_set, if_neg hnj, List.getElem?_eq_getElem hn, e]⟩
  · rcases mem g hg with q | rfl
    · have := h.sm g q; omega
    · have := h.sm _ hgj
      rw [List.length_append]
      show _ + 1 ≤ _
      omega
theorem Part.groups {W : Web} {ts : List Tie} {gs : List (List Nat)} (h : Part W.things ts gs W.n) : WebOk W → WebOk ⟨W.things, ts, W.pat, W.asks⟩ ∧ GroupsOk ⟨W.things, ts, W.pat, W.asks⟩ gs := fun hW => by
  have hn : ts.length = W.n := h.len
  refine ⟨⟨h.ok, hW.pat, by show ts.length ≤ 5; rw [hn]; exact hW.few, hW.th⟩, ⟨fun t ht => ?_, h.ne, fun g hg t ht => by show t < ts.length; rw [hn]; exact h.lt g hg t ht, fun g hg t ht => h.al g hg t ht, by show gs.length ≤ ts.length; rw [hn]; exact h.few⟩⟩
  obtain ⟨g, hg, hm⟩ := h.has t (by have : t < ts.length := ht; rw [hn] at this; exact this)
  unfold Km.groupOf
  rw [List.findIdx_lt_length]
  exact ⟨g, hg, List.contains_iff_mem.mpr hm⟩
theorem eqv_F (p q : Km.Frc) : PyData.eqv (py (dF p)) (py (dF q)) = decide (p = q) := by
  simp only [py, pys, PyData.eqv, PyData.eqvAll, Bool.and_true]
  rw [Bool.eq_iff_iff]
  simp only [Bool.and_eq_true, beq_iff_eq, decide_eq_true_eq]
  exact ⟨fun ⟨a, b⟩ => Prod.ext a b, fun h => by rw [h]; exact ⟨rfl, rfl⟩⟩
end Dl

/-! drawn groups, the walk -/
namespace Dl
open PySem PySem.Spec L2
open Km (Web Stand Wide Known Groups WebOk Node Tie TieOk GroupsOk)
section
variable {P : Program} {w : World} {K : PySem.W.Frag} {mg : Str → Option Value} {base : Heap}
def pr__law_grouped : Prom := fun as m U => ∃ (d : Addr) (l : List Nat) (W : Web), as = [.a d, .d (dW W)] ∧ m = [(d, dr l, true)] ∧ Dr l ∧ WebOk W ∧ ∀ (W2 : Web) (G : Groups) (l' : List Nat), WebOk W2 → GroupsOk W2 G → Dr l' → U (.d (.tup [dW W2, dG G])) [(d, dr l', true)]
theorem use__law_grouped {U : Arg → List Ob → Prop} {d : Addr} {l : List Nat} {W : Web} (hD : Dr l) (hW : WebOk W) (k : ∀ (W2 : Web) (G : Groups) (l' : List Nat), WebOk W2 → GroupsOk W2 G → Dr l' → U (.d (.tup [dW W2, dG G])) [(d, dr l', true)]) :
    pr__law_grouped [.a d, .d (dW W)] [(d, dr l, true)] U := ⟨d, l, W, rfl, rfl, hD, hW, k⟩
theorem len__law_grouped (as m W) (h : pr__law_grouped as m W) : as.length = 2 := by obtain ⟨_, _, _, rfl, _⟩ := h; rfl
theorem owns {a b c : Km.Frc} (ha : Km.Ch a) (hb : Km.Ch b) (hc : Km.Ch c) {r : Nat} (hr : r < 4) : ∃ x, Km.Ch x ∧ [Arg.d (dF a), Arg.d (dF b), Arg.d (dF a), Arg.d (dF c)][r]? = some (.d (dF x)) := by
  match r, hr with
  | 0, _ => exact ⟨a, ha, rfl⟩
  | 1, _ => exact ⟨b, hb, rfl⟩
  | 2, _ => exact ⟨a, ha, rfl⟩
  | 3, _ => exact ⟨c, hc, rfl⟩
  | r + 4, h => omega
abbrev tl (ts : List Tie) : Ct := .lst ((ts.map dTie).map Arg.d)
abbrev MM (d so ti g0 : Addr) (l : List Nat) (c0 c1 : Km.Frc) (ts : List Tie) (ps : Nat → Addr) (gs : List (List Nat)) : List Ob :=
  (d, dr l, true) :: (so, .lst [.d (dF c0), .d (dF c1)], true) :: (ti, tl ts, true) :: (g0, .lst (gLst ps gs.length), true) :: gObs ps gs
theorem al_list (gs : List (List Nat)) (f : Nat → Bool) : ((List.range gs.length).filter f).map (fun i => Arg.d (dN i)) = (((List.range gs.length).filter f).map dN).map Arg.d := by rw [List.map_map]; rfl
theorem at4 {α : Type} (a b c e : α) (L : List α) (n : Nat) : (a :: b :: c :: e :: L)[4 + n]? = L[n]? := by
  rw [Nat.add_comm]; rfl
theorem set4 {α : Type} (a b c e y : α) (L : List α) (n : Nat) : (a :: b :: c :: e :: L).set (4 + n) y = a :: b :: c :: e :: L.set n y := by
  rw [Nat.add_comm]; rfl
theorem obs_at {ps : Nat → Addr} {gs : List (List Nat)} {i : Nat} {r : List Ob} (h : i < gs.length) : (gObs ps gs ++ r)[i]? = some (gAt ps gs i) := by
  rw [List.getElem?_append_left (by simpa using h)]
  exact gObs_at h
theorem obs_end {ps : Nat → Addr} {gs : List (List Nat)} {x : Ob} : (gObs ps gs ++ [x])[gs.length]? = some x := by
  have e : (gObs ps gs).length = gs.length := by simp
  rw [List.getElem?_append_right (by omega), e, Nat.sub_self]
  rfl
set_option hygiene false in
local macro_rules | `(tactic| walk_at "dl") => `(tactic| (repeat' (first
  | with_reducible refine wx_op ?_ | with_reducible refine wx_int ?_ | with_reducible refine wx_bl ?_ | with_reducible refine wx_non ?_ | with_reducible refine wa_cons ?_ | with_reducible refine wa_nil ?_
  | ((with_reducible apply wx_var); focus exact rfl)
  | with_reducible refine wx_tup ?_ | with_reducible refine wx_cb ?_ | with_reducible refine wx_negC ?_ | with_reducible refine wx_lst0 ?_
  | with_reducible refine ws_ret ?_ | with_reducible refine ws_seq ?_ | with_reducible refine ws_asg ?_ | with_reducible refine ws_drop ?_ | with_reducible refine ws_next ?_ | with_reducible refine ws_if ?_ | with_reducible refine ws_par ?_
  | with_reducible refine wt_test ?_ | with_reducible refine wt_b ?_ | with_reducible refine wt_not ?_ | with_reducible refine wt_and ?_ | with_reducible refine wt_or ?_
  | with_reducible refine wg_name ?_ | with_reducible refine wg_tup2 ?_ | with_reducible refine wg_tup3 ?_
  | ((with_reducible refine wr_modC ?_ ?_); (focus exact Nat.zero_lt_succ _)) | ((with_reducible refine wr_modN ?_ ?_); (focus first | omega | assumption)) | ((with_reducible refine wr_divC ?_ ?_ ?_); (focus exact Nat.zero_lt_succ _); (focus exact Nat.le_of_ble_eq_true rfl))
  | with_reducible refine wr_addN ?_ | with_reducible refine wr_addL ?_ | with_reducible refine wr_addR ?_ | ((with_reducible refine wr_subR ?_ ?_); (focus omega)) | ((with_reducible refine wr_subL ?_ ?_); (focus omega))
  | ((with_reducible refine wr_mulN ?_ ?_); (focus omega)) | ((with_reducible refine wr_mulL ?_ ?_); (focus exact Nat.le_of_ble_eq_true rfl))
  | with_reducible refine wc_maxN ?_ | with_reducible refine wc_maxL ?_ | with_reducible refine wc_minN ?_
  | with_reducible refine wc_minR ?_ | with_reducible refine wc_lenS ?_ | with_reducible refine wc_absN ?_ | with_reducible refine wr_pow18 ?_
  | with_reducible refine wc_intBN ?_
  | with_reducible refine wr_i0 ?_ | with_reducible refine wr_b0 ?_ | with_reducible refine wr_eqI ?_ | with_reducible refine wr_neI ?_ | with_reducible refine wr_i ?_ ?_
  | ((with_reducible apply wr_ixT); focus exact rfl)
  | with_reducible refine wc_abs ?_ | with_reducible refine wc_lenM ?_ | with_reducible refine wc_lenT ?_ | with_reducible refine wc_max2 ?_ | with_reducible refine wc_min2 ?_ | with_reducible refine wc_intB ?_
  | with_reducible refine ⟨_, rfl, ?_⟩ | with_reducible refine ⟨_, _, rfl, ?_⟩
  | with_reducible refine ⟨[_], map1, len1, ?_⟩ | with_reducible refine ⟨[_, _], map2, len2, ?_⟩ | with_reducible refine ⟨[_, _, _], map3, len3, ?_⟩ | with_reducible refine ⟨[_, _, _, _], map4, len4, ?_⟩ | with_reducible refine ⟨[], map0, len0, ?_⟩
  | with_reducible refine wx_lcT ?_ | with_reducible refine wx_lcT2 ?_ | with_reducible refine wx_lcL ?_ | with_reducible refine wx_lcR ?_ | with_reducible refine wx_lcE ?_ | with_reducible refine wx_cut2 ?_ | with_reducible refine wx_cut_2 ?_ | with_reducible refine wt_yes ?_
  | with_reducible refine ws_forT ?_ | with_reducible refine ws_forL ?_ | with_reducible refine ws_forV ?_ | with_reducible refine ws_forR ?_ | with_reducible refine ws_forE ?_ | with_reducible refine ws_forZ ?_
  | with_reducible refine wr_inN ?_ | with_reducible refine wr_inN2 ?_ | ((with_reducible apply wr_ixT); focus exact tie_at (by assumption)) | ((with_reducible apply wr_ixT); focus exact pat_at (by assumption))
  | with_reducible refine wc_tupZ ?_ | with_reducible refine wc_lenZ ?_ | with_reducible refine wc_allZ ?_ | with_reducible refine wc_sumZ ?_ | with_reducible refine wc_sortTN ?_ | with_reducible refine wc_sortLK ?_
  | ((with_reducible refine wr_catN ?_ ?_); focus (first | omega | skip)) | ((with_reducible refine wr_catN1 ?_ ?_); focus (first | omega | skip)) | ((with_reducible refine wr_catN2 ?_ ?_); focus (first | omega | skip))
  | with_reducible refine ⟨_, _, _, rfl, ?_⟩ | with_reducible refine ⟨_, _, _, _, rfl, ?_⟩
  | with_reducible refine wr_catT (xs := [_, _]) (ys := [_]) cat21 ?_ | with_reducible refine wr_catT (xs := [_, _]) (ys := [_, _]) cat22 ?_
  | with_reducible refine ⟨rfl, ?_⟩
  | assumption
  | with_reducible refine wx_callP (A := pr__law_chance) ?_ | with_reducible refine use__law_chance ?_
  | fail)))

theorem ok__law_grouped (T : Txt K mg) (G_law_chance : FnOk P w K mg base CX0 3 T._law_chance.f T._law_chance.fd ["_law_number", "_law_kind"] (spD P w K pr__law_chance)) (G_law_next : FnOk P w K mg base CX0 1 T._law_next.f T._law_next.fd ["_law_drawn"] (spD P w K pr__law_next)) : FnOk P w K mg base CX0 4 T._law_grouped.f T._law_grouped.fd ["_law_drawn", "_law_web_here"] (spD P w K pr__law_grouped) := by
  refine fnD T._law_grouped.F sc__law_grouped len__law_grouped (fun cdv Ar outer s H E hr => ⟨_, (pss_cons (ps_setLc (i := 2) (own := [("_law_k", 10)]) rfl sc__law_grouped.nd rfl rfl (sw_true rfl rfl rfl (by decide +kernel)) (pi_range1 rfl T.range (pa_cons pe_int pa_nil)) (blkOk_by (N := N__law_grouped) (sc := defScope s__law_grouped) (by decide +kernel)) (fun _ _ _ _ _ =>  (pg_name (i := 10) sc__law_grouped.nd rfl (by first | exact Or.inl rfl | exact Or.inr rfl))) (fun _ _ _ _ _ =>  pts_nil) (fun _ _ _ _ _ =>  (pe_call G_law_chance (hr.mono (by decide)) rfl T._law_chance.g T._law_chance.F.kp T._law_chance.b .nil pass0 (pa_cons (pe_call G_law_next (hr.mono (by decide)) rfl T._law_next.g T._law_next.F.kp T._law_next.b .nil pass0 (pa_cons (pv 0) pa_nil)) (pa_cons (pe_op op_mod (pe_call G_law_next (hr.mono (by decide)) rfl T._law_next.g T._law_next.F.kp T._law_next.b .nil pass0 (pa_cons (pv 0) pa_nil)) pe_int) pa_nil)))))
    (pss_cons (ps_set (i := 3) sc__law_grouped.nd rfl (by first | exact Or.inl rfl | exact Or.inr rfl) (pe_lst pa_nil))
    (pss_cons (ps_set (i := 4) sc__law_grouped.nd rfl (by first | exact Or.inl rfl | exact Or.inr rfl) (pe_lst pa_nil))
    (pss_cons (ps_for PassesOwn.never rfl (show PI _ _ _ (iEnumT K _) from pi_enumT rfl T.enumerate (pa_cons (pe_ix (show IxR _ (rIxT K) from ix_tup) (pv 1) pe_int (fun _ _ => rfl)) pa_nil)) (show PG _ _ (gTup K 2 _) from pg_tup (n := 2) rfl (pgs_cons (pg_name (i := 5) sc__law_grouped.nd rfl (by first | exact Or.inl rfl | exact Or.inr rfl)) (pgs_cons (pg_name (i := 6) sc__law_grouped.nd rfl (by first | exact Or.inl rfl | exact Or.inr rfl)) pgs_nil)))
    (pss_cons (ps_set (i := 7) sc__law_grouped.nd rfl (by first | exact Or.inl rfl | exact Or.inr rfl) (pe_call G_law_next (hr.mono (by decide)) rfl T._law_next.g T._law_next.F.kp T._law_next.b .nil pass0 (pa_cons (pv 0) pa_nil)))
     (pss_cons (ps_set (i := 8) sc__law_grouped.nd rfl (by first | exact Or.inl rfl | exact Or.inr rfl) (pe_ix (show IxR _ (rIxL K) from ix_list) (pe_lst (pa_cons (pe_ix (show IxR _ (rIxL K) from ix_list) (pv 2) pe_int (fun _ _ => rfl)) (pa_cons (pe_ix (show IxR _ (rIxL K) from ix_list) (pv 2) pe_int (fun _ _ => rfl)) (pa_cons (pe_ix (show IxR _ (rIxL K) from ix_list) (pv 2) pe_int (fun _ _ => rfl)) (pa_cons (pe_ix (show IxR _ (rIxT K) from ix_tup) (pv 6) pe_int (fun _ _ => rfl)) pa_nil))))) (pe_op op_mod (pv 7) pe_int) (fun _ _ => rfl)))
     (pss_cons (ps_expr (show PE _ _ (tBM K "list" rAppend _ _) from pe_bm PySem.F.plainAttrs_list PySem.F.slot_list_append PySem.F.type_list_append mt_append (pv 3) (pa_cons (pe_op (show OpR _ _ (rCatA K) from op_catA) (pe_slice (show SlR _ (rSlA K) from sl_tupA) (pv 6) po_none (po_some pe_int)) (pe_tup (pa_cons (pv 8) (pa_cons (pe_ix (show IxR _ (rIxT K) from ix_tup) (pv 6) pe_int (fun _ _ => rfl)) pa_nil)))) pa_nil)))
     (pss_cons (ps_setLc (i := 9) (own := [("_law_k", 10), ("_law_group", 11)]) rfl sc__law_grouped.nd rfl rfl (sw_true rfl rfl rfl (by decide +kernel)) (show PI _ _ _ (iEnum K _) from pi_enum rfl T.enumerate (pa_cons (pv 4) pa_nil)) (blkOk_by (N := N__law_grouped) (sc := defScope s__law_grouped) (by decide +kernel)) (fun _ _ _ _ _ =>  (show PG _ _ (gTup K 2 _) from pg_tup (n := 2) rfl (pgs_cons (pg_name (i := 10) sc__law_grouped.nd rfl (by first | exact Or.inl rfl | exact Or.inr rfl)) (pgs_cons (pg_name (i := 11) sc__law_grouped.nd rfl (by first | exact Or.inl rfl | exact Or.inr rfl)) pgs_nil)))) (fun _ _ _ _ _ =>  pts_one (pt_cmpR (show OpR _ _ (rEqD K) from op_eqD hr.units) (pe_ix (show IxR _ (rIxT K) from ix_tup) (pe_ix (show IxR _ (rIxL K) from ix_list) (pv 3) (pe_ix (show IxR _ (rIxL K) from ix_list) (pv 11) pe_int (fun _ _ => rfl)) (fun _ _ => rfl)) pe_int (fun _ _ => rfl)) (pv 8) (nomark _))) (fun _ _ _ _ _ =>  (pv 10)))
     (pss_one (ps_if (PW.pt (pw_and (pt_cmpR (show OpR _ _ (rNeD K) from op_neD hr.units) (pv 9) (pe_lst pa_nil) (nomark _)) (pw_and1 (pt_cmpR op_gt (pe_op op_mod (pe_op op_fdivW (pv 7) pe_int) pe_int) pe_int (nomark _))))) (pss_one (ps_expr (show PE _ _ (tBM K "list" rAppend _ _) from pe_bm PySem.F.plainAttrs_list PySem.F.slot_list_append PySem.F.type_list_append mt_append (pe_ix (show IxR _ (rIxL K) from ix_list) (pv 4) (pe_ix (show IxR _ (rIxL K) from ix_list) (pv 9) (pe_op op_mod (pe_op op_fdivW (pv 7) pe_int) (pe_callB (show CallR _ _ (rLen K) from call_len_seq) (by rfl) T.len PySem.boot_len (pa_cons (pv 9) pa_nil))) (fun _ _ => rfl)) (fun _ _ => rfl)) (pa_cons (pv 5) pa_nil)))) (pss_one (ps_expr (show PE _ _ (tBM K "list" rAppend _ _) from pe_bm PySem.F.plainAttrs_list PySem.F.slot_list_append PySem.F.type_list_append mt_append (pv 4) (pa_cons (pe_lst (pa_cons (pv 5) pa_nil)) pa_nil)))))))))))
    (pss_one (ps_ret (pe_tup (pa_cons (pe_tup (pa_cons (pe_ix (show IxR _ (rIxT K) from ix_tup) (pv 1) pe_int (fun _ _ => rfl)) (pa_cons (pe_callTy (show CallR _ _ (rTupOf K) from call_tuple_of) (by rfl) T.tuple PyProof.Rows.boot_tuple (pa_cons (pv 3) pa_nil)) (pa_cons (pe_ix (show IxR _ (rIxT K) from ix_tup) (pv 1) pe_int (fun _ _ => rfl)) (pa_cons (pe_ix (show IxR _ (rIxT K) from ix_tup) (pv 1) pe_int (fun _ _ => rfl)) pa_nil))))) (pa_cons (pe_callTy (show CallR _ _ (rTupOf K) from call_tuple_of) (by rfl) T.tuple PyProof.Rows.boot_tuple (pa_cons (pe_lc (own := [("_law_group", 11)]) rfl sc__law_grouped.nd (show PI _ _ _ (iList K _) from pi_list (pv 4)) (blkOk_by (N := N__law_grouped) (sc := defScope s__law_grouped) (by decide +kernel)) (fun _ _ _ _ _ =>  (pg_name (i := 11) sc__law_grouped.nd rfl (by first | exact Or.inl rfl | exact Or.inr rfl))) (fun _ _ _ _ _ =>  pts_nil) (fun _ _ _ _ _ =>  (pe_callTy (show CallR _ _ (rTupOf K) from call_tuple_of) (by rfl) T.tuple PyProof.Rows.boot_tuple (pa_cons (pv 11) pa_nil)))) pa_nil)) pa_nil))))))))), fun as m W h => ?_⟩)
  try dsimp only [cxOf, Cx.nox, Cx.wish]
  obtain ⟨d, l, W', rfl, rfl, hD, hW, k⟩ := h
  have h5 := web5 hW
  refine ws_cut (fun S1 => ∃ (l : List Nat) (so : Addr) (c0 c1 : Km.Frc), Dr l ∧ Km.Ch c0 ∧ Km.Ch c1 ∧ S1 = ⟨[some (.a d), some (.d (dW W')), some (.a so), none, none, none, none, none, none, none, none, none], [(d, dr l, true), (so, .lst [.d (dF c0), .d (dF c1)], true)]⟩) ?_ ?_
  · refine ws_asg (wx_lc (wi_range (wa_cons (wx_int (wa_nil ⟨2, rfl, by decide, fun i hi => by rw [List.mem_singleton.mp hi]; decide, fun D i acc m => ∃ (l : List Nat) (cs : List Km.Frc), Dr l ∧ cs.length = i ∧ (∀ c ∈ cs, Km.Ch c) ∧ acc = cs.map (fun c => Arg.d (dF c)) ∧ m = [(d, dr l, true), (D, .lst acc, true)], fun D => ⟨l, [], hD, rfl, (fun _ h => absurd h List.not_mem_nil), rfl, rfl⟩, fun _ _ _ _ _ _ => trivial, ?_, ?_⟩)))))
    · rintro D i acc m hi ⟨l, cs, hD, hcs, hch, rfl, rfl⟩
      have hi' : i < 2 := hi
      walk_at "dl"
      refine ⟨fun _ => ?_, fun h => nomatch h⟩
      walk_at "dl"
      refine wx_call1 ?_
      walk_at "dl"
      refine ⟨0, _, _, rfl, use__law_next hD fun x1 l1 hx1 hD1 => ?_⟩
      walk_at "dl"
      refine wx_call1 ?_
      walk_at "dl"
      refine ⟨0, _, _, rfl, use__law_next hD1 fun x2 l2 hx2 hD2 => ?_⟩
      walk_at "dl"
      intro c hc
      refine ⟨rfl, 1, _, by rw [List.length_map]; omega, rfl, List.Sublist.refl _, l2, cs ++ [c], hD2, by rw [List.length_append, hcs]; rfl, ?_, ?_, rfl⟩
      · intro x hx
        rcases List.mem_append.mp hx with q | q
        · exact hch x q
        · rw [List.mem_singleton.mp q]; exact hc
      · rw [List.map_append]; rfl
    · rintro D acc m ⟨l, cs, hD, hcs, hch, rfl, rfl⟩
      walk_at "dl"
      match cs, hcs with
      | [c0, c1], _ => exact ⟨l, D, c0, c1, hD, hch c0 List.mem_cons_self, hch c1 (List.mem_cons_of_mem _ List.mem_cons_self), rfl⟩
  rintro S1 ⟨l, so, c0, c1, hD, hc0, hc1, rfl⟩
  refine ws_cut (fun S1 => ∃ ti, S1 = ⟨[some (.a d), some (.d (dW W')), some (.a so), some (.a ti), none, none, none, none, none, none, none, none], [(d, dr l, true), (so, .lst [.d (dF c0), .d (dF c1)], true), (ti, .lst [], true)]⟩) ?_ ?_
  · walk_at "dl"
    intro ti
    walk_at "dl"
    exact ⟨ti, rfl⟩
  rintro S1 ⟨ti, rfl⟩
  refine ws_cut (fun S1 => ∃ g0, S1 = ⟨[some (.a d), some (.d (dW W')), some (.a so), some (.a ti), some (.a g0), none, none, none, none, none, none, none], [(d, dr l, true), (so, .lst [.d (dF c0), .d (dF c1)], true), (ti, .lst [], true), (g0, .lst [], true)]⟩) ?_ ?_
  · walk_at "dl"
    intro g0
    walk_at "dl"
    exact ⟨g0, rfl⟩
  rintro S1 ⟨g0, rfl⟩
  walk_at "dl"
  refine ⟨Tie, dflt, W'.ties, dTie, rfl, fun i S1 => ∃ (l : List Nat) (ts : List Tie) (ps : Nat → Addr) (gs : List (List Nat)) (o5 o6 o7 o8 o9 : Option Arg), Dr l ∧ Part W'.things ts gs i ∧ S1 = ⟨[some (.a d), some (.d (dW W')), some (.a so), some (.a ti), some (.a g0), o5, o6, o7, o8, o9, none, none], MM d so ti g0 l c0 c1 ts ps gs⟩,
    ⟨l, [], fun _ => 0, [], none, none, none, none, none, hD, ⟨rfl, (fun _ h => absurd h List.not_mem_nil), Nat.le_refl _, (fun _ h => absurd h List.not_mem_nil), (fun _ h => absurd h List.not_mem_nil), (fun _ h => absurd h List.not_mem_nil), fun t h => absurd h (Nat.not_lt_zero _), (fun _ h => absurd h List.not_mem_nil)⟩, rfl⟩, ?_, ?_⟩
  · rintro i T S' hT ⟨l, ts, ps, gs, o5, o6, o7, o8, o9, hD, hP, rfl⟩
    have hin := (List.getElem?_eq_some_iff.mp hT).1
    have hin5 : i < 5 := Nat.lt_of_lt_of_le hin hW.few
    have hTok := hW.ties T (List.mem_of_getElem? hT)
    have hfew := hP.few
    -- the number
    refine ws_cut (fun S1 => ∃ (l : List Nat) (x : Nat), Dr l ∧ S1 = ⟨[some (.a d), some (.d (dW W')), some (.a so), some (.a ti), some (.a g0), some (.d (dN i)), some (.d (dTie T)), some (.d (dN x)), o8, o9, none, none], MM d so ti g0 l c0 c1 ts ps gs⟩) ?_ ?_
    · walk_at "dl"
      refine wx_call1 ?_
      walk_at "dl"
      refine ⟨0, _, _, rfl, use__law_next hD fun x1 l1 hx1 hD1 => ?_⟩
      walk_at "dl"
      exact ⟨l1, x1, hD1, rfl⟩
    rintro S1 ⟨l, x, hD, rfl⟩
    -- its own chance
    refine ws_cut (fun S1 => ∃ (c : Km.Frc), Km.Ch c ∧ S1 = ⟨[some (.a d), some (.d (dW W')), some (.a so), some (.a ti), some (.a g0), some (.d (dN i)), some (.d (dTie T)), some (.d (dN x)), some (.d (dF c)), o9, none, none], MM d so ti g0 l c0 c1 ts ps gs⟩) ?_ ?_
    · walk_at "dl"
      refine wx_lst (wa_cons ?_)
      walk_at "dl"
      refine wr_ixL (n := 1) rfl (atI_nat (j := 0) rfl) ?_
      walk_at "dl"
      refine wr_ixL (n := 1) rfl (atI_nat (j := 1) rfl) ?_
      walk_at "dl"
      refine wr_ixL (n := 1) rfl (atI_nat (j := 0) rfl) ?_
      walk_at "dl"
      refine ⟨len_le rfl, fun q => ?_⟩
      walk_at "dl"
      obtain ⟨c, hc, e⟩ := owns hc0 hc1 hTok.c (r := x % 4) (nx_mod (by decide))
      refine wr_ixZ (atI_nat e) ?_
      walk_at "dl"
      exact ⟨c, hc, rfl⟩
    rintro S1 ⟨c, hc, rfl⟩
    -- the tie
    refine ws_cut (fun S1 => S1 = ⟨[some (.a d), some (.d (dW W')), some (.a so), some (.a ti), some (.a g0), some (.d (dN i)), some (.d (dTie T)), some (.d (dN x)), some (.d (dF c)), o9, none, none], MM d so ti g0 l c0 c1 (ts ++ [⟨T.a, T.b, c, T.w⟩]) ps gs⟩) ?_ ?_
    · walk_at "dl"
      refine wx_app ?_
      walk_at "dl"
      refine ⟨_, 2, _, _, rfl, rfl, ?_⟩
      walk_at "dl"
      refine ⟨_, _, rfl, rfl, by rw [List.length_map, List.length_map, hP.len]; omega, ?_⟩
      show (⟨_, _⟩ : Sy) = ⟨_, _⟩
      unfold MM tl
      rw [List.map_append, List.map_append]
      rfl
    rintro S1 rfl
    have hlen : (ts ++ [(⟨T.a, T.b, c, T.w⟩ : Tie)]).length = i + 1 := by rw [List.length_append, hP.len]; rfl
    have hT2 : TieOk W'.things ⟨T.a, T.b, c, T.w⟩ := ⟨hTok.a, hTok.b, hc, hTok.w⟩
    -- the groups that are alike
    let f : Nat → Bool := fun n => decide ((ts.getD ((gs.getD n []).headD 0) dflt).c = c)
    refine ws_cut (fun S1 => ∃ al : Addr, S1 = ⟨[some (.a d), some (.d (dW W')), some (.a so), some (.a ti), some (.a g0), some (.d (dN i)), some (.d (dTie T)), some (.d (dN x)), some (.d (dF c)), some (.a al), none, none], MM d so ti g0 l c0 c1 (ts ++ [⟨T.a, T.b, c, T.w⟩]) ps gs ++ [(al, .lst ((((List.range gs.length).filter f).map dN).map Arg.d), true)]⟩) ?_ ?_
    · refine ws_asg (wx_lcP (wi_enumL (a := 10) (b := 11) (wa_cons (wx_var (x := .a g0) rfl (wa_nil ⟨g0, 3, gLst ps gs.length, true, rfl, rfl, ?_⟩)))))
      refine ⟨fun i hi => hi, by rw [List.length_map, List.length_range]; omega, fun r y => rfl, f, fun n => .d (dN n), fun n ob hn => ?_, fun al => ?_⟩
      · rw [List.length_map, List.length_range] at hn
        have hg := gLst_at (ps := ps) hn
        dsimp only
        rw [hg]
        have hgm : gs.getD n [] ∈ gs := getD_mem [] hn
        have hhd := headD_mem (hP.ne _ hgm)
        have hlt := hP.lt _ hgm _ hhd
        walk_at "dl"
        refine wr_ixL (n := 4 + n) (xs := ((gs.getD n []).map dN).map Arg.d) (b := true) ?_ (atI_nat (j := 0) (v := .d (dN ((gs.getD n []).headD 0))) ?_) ?_
        · show ((d, dr l, true) :: (so, _, true) :: (ti, _, true) :: (g0, _, true) :: (gObs ps gs ++ [ob]))[4 + n]? = _
          rw [at4, obs_at hn]
        · cases q : gs.getD n [] with
          | nil => exact absurd q (hP.ne _ hgm)
          | cons y r => rfl
        have hat : (((ts ++ [(⟨T.a, T.b, c, T.w⟩ : Tie)]).map dTie).map Arg.d)[(gs.getD n []).headD 0]? = some (.d (dTie (ts.getD ((gs.getD n []).headD 0) dflt))) := by
          rw [List.getElem?_map, map_at dflt dTie (by rw [hlen]; omega), getD_left (by rw [hP.len]; exact hlt)]
          rfl
        refine wr_ixL (n := 2) rfl (atI_nat hat) ?_
        walk_at "dl"
        refine wr_eqT (by simp [py, pys, PyData.depth, PyData.depthAll]) (by simp [py, pys, PyData.depth, PyData.depthAll]) ?_
        refine ⟨_, rfl, eqv_F _ _, fun _ => ?_, fun _ => List.prefix_refl _⟩
        walk_at "dl"
        exact List.prefix_refl _
      · walk_at "dl"
        refine ⟨al, ?_⟩
        unfold giv
        rw [List.length_map, List.length_range, al_list]
        rfl
    rintro S1 ⟨al, rfl⟩
    generalize hA : (List.range gs.length).filter f = A
    have hAm : ∀ j ∈ A, j < gs.length ∧ f j = true := fun j hj => by
      rw [← hA] at hj
      obtain ⟨h1, h2⟩ := List.mem_filter.mp hj
      exact ⟨List.mem_range.mp h1, h2⟩
    have hal : ∀ X : Ob, (MM d so ti g0 l c0 c1 (ts ++ [⟨T.a, T.b, c, T.w⟩]) ps gs ++ [X])[4 + gs.length]? = some X := fun X => by
      show ((d, dr l, true) :: (so, _, true) :: (ti, _, true) :: (g0, _, true) :: (gObs ps gs ++ [X]))[4 + gs.length]? = _
      rw [at4, obs_end]
    walk_at "dl"
    intro q0
    apply wr_neZ (n := 4 + gs.length)
    · exact hal _
    · exact dp_list dp_N
    refine ⟨_, rfl, fun hne => ?_, fun _ => ⟨(fun h => nomatch h), fun _ => ?_⟩⟩
    · walk_at "dl"
      refine ⟨fun hc2 => ?_, fun _ => ?_⟩
      · have hA0 : 0 < A.length := by
          cases A with
          | nil => exact absurd hne (by decide)
          | cons y r => simp
        have hr : x / 12 % A.length < A.length := nx_mod hA0
        have hjm : A.getD (x / 12 % A.length) 0 ∈ A := getD_mem 0 hr
        obtain ⟨hj, hfj⟩ := hAm _ hjm
        generalize hjj : A.getD (x / 12 % A.length) 0 = j at hjm hj hfj
        have hat : ((A.map dN).map Arg.d)[x / 12 % A.length]? = some (.d (dN j)) := by
          rw [List.getElem?_map, map_at 0 dN hr, hjj]
          rfl
        have hjm4 : ∀ X : Ob, (MM d so ti g0 l c0 c1 (ts ++ [⟨T.a, T.b, c, T.w⟩]) ps gs ++ [X])[4 + j]? = some (gAt ps gs j) := fun X => by
          show ((d, dr l, true) :: (so, _, true) :: (ti, _, true) :: (g0, _, true) :: (gObs ps gs ++ [X]))[4 + j]? = _
          rw [at4, obs_at hj]
        refine ws_drop (wx_app (wx_op ?_))
        refine wx_var (x := .a g0) rfl (wx_op ?_)
        refine wx_var (x := .a al) rfl (wx_op (wx_op ?_))
        refine wx_var (x := .d (dN x)) rfl (wx_int ?_)
        refine wr_divC (by decide) (by decide) ?_
        refine wx_cb (wa_cons ?_)
        refine wx_var (x := .a al) rfl (wa_nil ?_)
        apply wc_lenL (n := 4 + gs.length)
        · exact hal _
        rw [dr_len]
        walk_at "dl"
        apply wr_ixL (n := 4 + gs.length)
        · exact hal _
        · exact atI_nat hat
        walk_at "dl"
        refine wr_ixL (n := 3) rfl (atI_nat (gLst_at hj)) ?_
        refine ⟨ps j, 4 + j, _, _, rfl, hjm4 _, ?_⟩
        walk_at "dl"
        have hsmall : (gs.getD j []).length < 1000000 := by
          have := hP.sm _ (getD_mem [] hj)
          omega
        refine ⟨_, _, rfl, hjm4 _, by rw [dr_len]; exact hsmall, ?_⟩
        refine ⟨⟨[some (.a d), some (.d (dW W')), some (.a so), some (.a ti), some (.a g0), some (.d (dN i)), some (.d (dTie T)), some (.d (dN x)), some (.d (dF c)), some (.a al), none, none], MM d so ti g0 l c0 c1 (ts ++ [⟨T.a, T.b, c, T.w⟩]) ps (gs.set j (gs.getD j [] ++ [i]))⟩, ⟨fun _ _ h => h, rfl, ?_⟩, l, ts ++ [⟨T.a, T.b, c, T.w⟩], ps, gs.set j (gs.getD j [] ++ [i]), _, _, _, _, _, hD, hP.join hT2 hj (of_decide_eq_true hfj), rfl⟩
        show List.Sublist (MM d so ti g0 l c0 c1 (ts ++ [⟨T.a, T.b, c, T.w⟩]) ps (gs.set j (gs.getD j [] ++ [i]))) (((d, dr l, true) :: (so, .lst [.d (dF c0), .d (dF c1)], true) :: (ti, tl (ts ++ [⟨T.a, T.b, c, T.w⟩]), true) :: (g0, .lst (gLst ps gs.length), true) :: (gObs ps gs ++ [(al, _, true)])).set (4 + j) (ps j, .lst (((gs.getD j []).map dN).map Arg.d ++ [.d (dN i)]), true))
        rw [set4, List.set_append_left _ _ (by simpa using hj), dr_snoc]
        unfold MM
        rw [List.length_set, ← gObs_set hj]
        exact ((((List.sublist_append_left _ _).cons₂ _).cons₂ _).cons₂ _).cons₂ _
      · walk_at "dl"
        refine wx_app ?_
        walk_at "dl"
        refine ⟨g0, 3, _, _, rfl, rfl, ?_⟩
        walk_at "dl"
        refine wx_lst (wa_cons ?_)
        walk_at "dl"
        refine ⟨len_le rfl, fun q => ?_⟩
        walk_at "dl"
        refine ⟨_, _, rfl, rfl, by rw [List.length_map, List.length_range]; omega, ?_⟩
        refine ⟨⟨[some (.a d), some (.d (dW W')), some (.a so), some (.a ti), some (.a g0), some (.d (dN i)), some (.d (dTie T)), some (.d (dN x)), some (.d (dF c)), some (.a al), none, none], MM d so ti g0 l c0 c1 (ts ++ [⟨T.a, T.b, c, T.w⟩]) (addP ps gs.length q) (gs ++ [[i]])⟩, ⟨fun _ _ h => h, rfl, ?_⟩, l, ts ++ [⟨T.a, T.b, c, T.w⟩], addP ps gs.length q, gs ++ [[i]], _, _, _, _, _, hD, hP.new hT2, rfl⟩
        show List.Sublist (MM d so ti g0 l c0 c1 (ts ++ [⟨T.a, T.b, c, T.w⟩]) (addP ps gs.length q) (gs ++ [[i]])) ((d, dr l, true) :: (so, .lst [.d (dF c0), .d (dF c1)], true) :: (ti, tl (ts ++ [⟨T.a, T.b, c, T.w⟩]), true) :: (g0, .lst (gLst ps gs.length ++ [.a q]), true) :: (gObs ps gs ++ [(al, _, true)] ++ [(q, dr [i], true)]))
        unfold MM
        rw [← gObs_new, gLst_new, show (gs ++ [[i]]).length = gs.length + 1 by simp]
        exact ((((List.Sublist.append (List.sublist_append_left _ _) (List.Sublist.refl _)).cons₂ _).cons₂ _).cons₂ _).cons₂ _
    · walk_at "dl"
      refine wx_app ?_
      walk_at "dl"
      refine ⟨g0, 3, _, _, rfl, rfl, ?_⟩
      walk_at "dl"
      refine wx_lst (wa_cons ?_)
      walk_at "dl"
      refine ⟨len_le rfl, fun q => ?_⟩
      walk_at "dl"
      refine ⟨_, _, rfl, rfl, by rw [List.length_map, List.length_range]; omega, ?_⟩
      refine ⟨⟨[some (.a d), some (.d (dW W')), some (.a so), some (.a ti), some (.a g0), some (.d (dN i)), some (.d (dTie T)), some (.d (dN x)), some (.d (dF c)), some (.a al), none, none], MM d so ti g0 l c0 c1 (ts ++ [⟨T.a, T.b, c, T.w⟩]) (addP ps gs.length q) (gs ++ [[i]])⟩, ⟨fun _ _ h => h, rfl, ?_⟩, l, ts ++ [⟨T.a, T.b, c, T.w⟩], addP ps gs.length q, gs ++ [[i]], _, _, _, _, _, hD, hP.new hT2, rfl⟩
      show List.Sublist (MM d so ti g0 l c0 c1 (ts ++ [⟨T.a, T.b, c, T.w⟩]) (addP ps gs.length q) (gs ++ [[i]])) ((d, dr l, true) :: (so, .lst [.d (dF c0), .d (dF c1)], true) :: (ti, tl (ts ++ [⟨T.a, T.b, c, T.w⟩]), true) :: (g0, .lst (gLst ps gs.length ++ [.a q]), true) :: (gObs ps gs ++ [(al, _, true)] ++ [(q, dr [i], true)]))
      unfold MM
      rw [← gObs_new, gLst_new, show (gs ++ [[i]]).length = gs.length + 1 by simp]
      exact ((((List.Sublist.append (List.sublist_append_left _ _) (List.Sublist.refl _)).cons₂ _).cons₂ _).cons₂ _).cons₂ _
  · rintro S' ⟨l, ts, ps, gs, o5, o6, o7, o8, o9, hD, hP, rfl⟩
    obtain ⟨hW2, hG2⟩ := Part.groups (gs := gs) hP hW
    have hfew := hP.few
    have hn5 : W'.ties.length ≤ 5 := hW.few
    walk_at "dl"
    refine wc_tupL (n := 2) rfl ?_
    walk_at "dl"
    refine ⟨Nat, 0, List.range gs.length, fun i => .a (ps i), g0, 3, true, rfl, rfl, by decide, by rw [List.length_range]; omega, fun _ => true, fun i => .d (dNs (gs.getD i [])), fun i ob hi => ?_, fun p => ?_⟩
    · have hi' := List.mem_range.mp hi
      walk_at "dl"
      refine ⟨fun _ => ?_, fun h => nomatch h⟩
      walk_at "dl"
      refine wc_tupL (n := 4 + i) (b := true) (ds := (gs.getD i []).map dN) ?_ ?_
      · show ((d, dr l, true) :: (so, _, true) :: (ti, _, true) :: (g0, _, true) :: (gObs ps gs ++ [ob]))[4 + i]? = _
        rw [at4, obs_at hi']
      · exact ⟨rfl, List.prefix_refl _⟩
    · have e : ((List.range gs.length).filter fun _ => true).map (fun i => Arg.d (dNs (gs.getD i []))) = (gs.map dNs).map Arg.d := by
        rw [List.filter_eq_self.mpr (fun _ _ => rfl), List.map_map]
        refine List.ext_getElem? fun i => ?_
        by_cases hi : i < gs.length
        · rw [List.getElem?_map, List.getElem?_range hi, List.getElem?_map, List.getElem?_eq_getElem hi]
          show some (Arg.d (dNs (gs.getD i []))) = some (Arg.d (dNs gs[i]))
          rw [← List.getElem_eq_getD [] (h := hi)]
        · rw [List.getElem?_eq_none (by simpa using hi), List.getElem?_eq_none (by simpa using hi)]
      rw [e]
      walk_at "dl"
      exact ⟨_, k _ gs l hW2 hG2 hD, (List.nil_sublist _).cons₂ _⟩
end
end Dl

/-! grown trees -/
namespace Dl
open PySem PySem.Spec L2
open Km (Web Stand Wide Known Groups WebOk Node Tie TieOk GroupsOk TreeOk child)
section
variable {α : Type} (ct : α → Ct) (d0 : α)
abbrev oAt (ps : Nat → Addr) (xs : List α) (i : Nat) : Ob := (ps i, ct (xs.getD i d0), true)
abbrev oObs (ps : Nat → Addr) (xs : List α) : List Ob := (List.range xs.length).map (oAt ct d0 ps xs)
variable {ct d0}
theorem oObs_at {ps : Nat → Addr} {xs : List α} {i : Nat} {r : List Ob} (h : i < xs.length) : (oObs ct d0 ps xs ++ r)[i]? = some (oAt ct d0 ps xs i) := by
  rw [List.getElem?_append_left (by simpa using h), List.getElem?_map, List.getElem?_range h]; rfl
theorem oObs_end {ps : Nat → Addr} {xs : List α} {x : Ob} : (oObs ct d0 ps xs ++ [x])[xs.length]? = some x := by
  have e : (oObs ct d0 ps xs).length = xs.length := by simp
  rw [List.getElem?_append_right (by omega), e, Nat.sub_self]
  rfl
theorem oObs_set {ps : Nat → Addr} {xs : List α} {j : Nat} (h : j < xs.length) (x : α) : (oObs ct d0 ps xs).set j (ps j, ct x, true) = oObs ct d0 ps (xs.set j x) := by
  refine List.ext_getElem? fun i => ?_
  rw [List.getElem?_set]
  by_cases hi : i < xs.length
  · have hr : (List.range (xs.set j x).length)[i]? = some i := List.getElem?_range (by rw [List.length_set]; exact hi)
    rw [List.getElem?_map (l := List.range (xs.set j x).length), hr]
    by_cases hj : j = i
    · subst hj
      rw [if_pos rfl, if_pos (by simpa using h)]
      show some (ps j, ct x, true) = some (ps j, ct ((xs.set j x).getD j d0), true)
      rw [List.getD_eq_getElem?_getD, List.getElem?_set, if_pos rfl, if_pos h]
      rfl
    · rw [if_neg hj, List.getElem?_map, List.getElem?_range hi]
      show some (ps i, ct (xs.getD i d0), true) = some (ps i, ct ((xs.set j x).getD i d0), true)
      rw [List.getD_eq_getElem?_getD, List.getD_eq_getElem?_getD, List.getElem?_set, if_neg hj]
  · have e1 : (oObs ct d0 ps xs)[i]? = none := List.getElem?_eq_none (by simpa using hi)
    have e2 : (oObs ct d0 ps (xs.set j x))[i]? = none := List.getElem?_eq_none (by simpa using hi)
    rw [if_neg (by omega), e1, e2]
theorem oObs_new (ps : Nat → Addr) (xs : List α) (q : Addr) (x : α) : oObs ct d0 ps xs ++ [(q, ct x, true)] = oObs ct d0 (addP ps xs.length q) (xs ++ [x]) := by
  show (List.range xs.length).map (oAt ct d0 ps xs) ++ _ = (List.range (xs ++ [x]).length).map _
  rw [show (xs ++ [x]).length = xs.length + 1 by simp, List.range_succ, List.map_append]
  congr 1
  · refine List.map_congr_left fun i hi => ?_
    have hi' := List.mem_range.mp hi
    show (ps i, ct (xs.getD i d0), true) = (addP ps xs.length q i, ct ((xs ++ [x]).getD i d0), true)
    unfold addP
    rw [if_neg (by omega), List.getD_eq_getElem?_getD, List.getD_eq_getElem?_getD, List.getElem?_append_left hi']
  · show _ = [(addP ps xs.length q xs.length, ct ((xs ++ [x]).getD xs.length d0), true)]
    unfold addP
    rw [if_pos rfl]
    simp
end
/-- what waits: a stand, its parent, which side of it -/
structure Wt where
  s : Stand
  p : Int
  side : Nat
abbrev dWt (q : Wt) : D := .tup [dS q.s, .int q.p, dN q.side]
def upd1 (x : Node) (side : Nat) (k : Int) : Node := if side = 0 then (x.1, k, x.2.2) else (x.1, x.2.1, k)
theorem upd1_t (x : Node) (side : Nat) (k : Int) : (upd1 x side k).1 = x.1 := by
  unfold upd1
  split <;> rfl
structure Tr (W : Web) (nodes : List Node) (sts : List Stand) (wait : List Wt) : Prop where
  len : nodes.length = sts.length
  small : nodes.length ≤ 12
  first : ∀ s, sts[0]? = some s → s = ([], [])
  node : ∀ (i t : Nat) (y n : Int) (st : Stand), nodes[i]? = some (t, y, n) → sts[i]? = some st → t ∈ Km.askable W st ∧ child W sts i st t true y ∧ child W sts i st t false n
  sp : ∀ q ∈ wait, Km.SP W q.s
  sd : ∀ q ∈ wait, q.side < 2
  wt : ∀ q ∈ wait, (q.p = -1 ∧ q.s = ([], []) ∧ nodes = []) ∨ ∃ (p : Nat) (x : Node) (st : Stand), q.p = (p : Int) ∧ nodes[p]? = some x ∧ sts[p]? = some st ∧ q.s = Km.behind W st x.1 (decide (q.side = 0))
  one : nodes = [] → wait.length ≤ 1
  few : wait.length ≤ nodes.length + 1
theorem Tr.start (W : Web) : Tr W [] [] [⟨([], []), -1, 0⟩] where
  len := rfl
  small := by decide
  first := fun s h => by simp at h
  node := fun i t y n st h => by simp at h
  sp := fun q hq => by rw [List.mem_singleton.mp hq]; exact Km.SP.first W
  sd := fun q hq => by rw [List.mem_singleton.mp hq]; show 0 < 2; decide
  wt := fun q hq => by rw [List.mem_singleton.mp hq]; exact .inl ⟨rfl, rfl, rfl⟩
  one := fun _ => Nat.le_refl 1
  few := Nat.le_refl 1
theorem Tr.skip {W : Web} {nodes : List Node} {sts : List Stand} {q : Wt} {rest : List Wt} (h : Tr W nodes sts (q :: rest)) : Tr W nodes sts rest where
  len := h.len
  small := h.small
  first := h.first
  node := h.node
  sp := fun x hx => h.sp x (List.mem_cons_of_mem _ hx)
  sd := fun x hx => h.sd x (List.mem_cons_of_mem _ hx)
  wt := fun x hx => h.wt x (List.mem_cons_of_mem _ hx)
  one := fun e => by have := h.one e; rw [List.length_cons] at this; omega
  few := by have := h.few; rw [List.length_cons] at this; omega
theorem child_more {W : Web} {sts : List Stand} {i t : Nat} {st s : Stand} {b : Bool} {j : Int} (h : child W sts i st t b j) : child W (sts ++ [s]) i st t b j := by
  rcases h with q | ⟨k, e, a, b', c⟩
  · exact .inl q
  · exact .inr ⟨k, e, a, by rw [List.length_append]; show k < sts.length + 1; omega, by rw [List.getElem?_append_left b']; exact c⟩
theorem Tr.grow {W : Web} {nodes nodes1 : List Node} {sts : List Stand} {q : Wt} {rest : List Wt} (h : Tr W nodes sts (q :: rest)) {t : Nat} (ht : t ∈ Km.askable W q.s) (hs : nodes.length < 12) (hl : nodes1.length = nodes.length)
    (hn : ∀ (i : Nat) (x : Node), nodes1[i]? = some x → nodes[i]? = some x ∨ ∃ (x0 : Node) (st : Stand), nodes[i]? = some x0 ∧ sts[i]? = some st ∧ q.s = Km.behind W st x0.1 (decide (q.side = 0)) ∧ x = upd1 x0 q.side (nodes.length : Int)) :
    Tr W (nodes1 ++ [(t, -1, -1)]) (sts ++ [q.s]) (rest ++ [⟨Km.behind W q.s t true, (nodes.length : Int), 0⟩, ⟨Km.behind W q.s t false, (nodes.length : Int), 1⟩]) := by
  have hsp := h.sp q List.mem_cons_self
  have hlen := h.len
  have same : ∀ (i : Nat) (x : Node), nodes[i]? = some x → ∃ x1, nodes1[i]? = some x1 ∧ x1.1 = x.1 := fun i x hx => by
    have hi := (List.getElem?_eq_some_iff.mp hx).1
    have hi1 : i < nodes1.length := by omega
    refine ⟨nodes1[i], List.getElem?_eq_getElem hi1, ?_⟩
    rcases hn i _ (List.getElem?_eq_getElem hi1) with q1 | ⟨x0, st, a, _, _, e⟩
    · rw [hx] at q1
      exact (congrArg Prod.fst (Option.some.inj q1)).symm
    · rw [hx] at a
      rw [e, upd1_t, Option.some.inj a]
  have atk : (nodes1 ++ [((t, -1, -1) : Node)])[nodes.length]? = some (t, -1, -1) := by
    rw [List.getElem?_append_right (by omega), hl, Nat.sub_self]; rfl
  have stk : (sts ++ [q.s])[nodes.length]? = some q.s := by
    rw [List.getElem?_append_right (by omega), hlen, Nat.sub_self]; rfl
  have newchild : child W (sts ++ [q.s]) = fun i st t b j => j = -1 ∨ ∃ k : Nat, j = (k : Int) ∧ i < k ∧ k < (sts ++ [q.s]).length ∧ (sts ++ [q.s])[k]? = some (Km.behind W st t b) := rfl
  refine ⟨?_, ?_, fun s e => ?_, fun i t' y n st h1 h2 => ?_, fun x hx => ?_, fun x hx => ?_, fun x hx => ?_, fun e => ?_, ?_⟩
  · rw [List.length_append, List.length_append, hl, hlen]; rfl
  · rw [List.length_append, hl]; show nodes.length + 1 ≤ 12; omega
  · by_cases h0 : sts.length = 0
    · have e0 : sts = [] := List.eq_nil_of_length_eq_zero h0
      rw [e0] at e
      have e' : q.s = s := by simpa using e
      have hn0 : nodes = [] := List.eq_nil_of_length_eq_zero (by omega)
      rcases h.wt q List.mem_cons_self with ⟨_, a, _⟩ | ⟨p, x, st, _, a, _⟩
      · rw [← e', a]
      · rw [hn0] at a
        simp at a
    · rw [List.getElem?_append_left (by omega)] at e
      exact h.first s e
  · by_cases hi : i < nodes1.length
    · rw [List.getElem?_append_left hi] at h1
      rw [List.getElem?_append_left (by omega)] at h2
      rcases hn i _ h1 with q1 | ⟨⟨x1, x2, x3⟩, st0, a, b, c, e⟩
      · obtain ⟨a, b, c⟩ := h.node i t' y n st q1 h2
        exact ⟨a, child_more b, child_more c⟩
      · rw [h2] at b
        obtain rfl := Option.some.inj b
        obtain ⟨k1, k2, k3⟩ := h.node i x1 x2 x3 st a h2
        have new : ∀ b, b = decide (q.side = 0) → child W (sts ++ [q.s]) i st x1 b (nodes.length : Int) := fun b hb => .inr ⟨nodes.length, rfl, by omega, by rw [List.length_append]; show nodes.length < sts.length + 1; omega, by rw [stk, hb]; exact congrArg some c⟩
        unfold upd1 at e
        split at e
        · rename_i hside
          obtain ⟨rfl, rfl, rfl⟩ : t' = x1 ∧ y = (nodes.length : Int) ∧ n = x3 := by
            have e1 := congrArg Prod.fst e
            have e2 := congrArg (fun z => z.2.1) e
            have e3 := congrArg (fun z => z.2.2) e
            exact ⟨e1, e2, e3⟩
          exact ⟨k1, new true (by rw [hside]; rfl), child_more k3⟩
        · rename_i hside
          obtain ⟨rfl, rfl, rfl⟩ : t' = x1 ∧ y = x2 ∧ n = (nodes.length : Int) := by
            have e1 := congrArg Prod.fst e
            have e2 := congrArg (fun z => z.2.1) e
            have e3 := congrArg (fun z => z.2.2) e
            exact ⟨e1, e2, e3⟩
          exact ⟨k1, child_more k2, new false (by rw [decide_eq_false hside])⟩
    · have hi2 : i = nodes.length := by
        have := (List.getElem?_eq_some_iff.mp h1).1
        rw [List.length_append] at this
        have : i < nodes1.length + 1 := this
        omega
      subst hi2
      rw [atk] at h1
      rw [stk] at h2
      have h1' := Option.some.inj h1
      obtain ⟨rfl, rfl, rfl⟩ : t = t' ∧ -1 = y ∧ -1 = n := ⟨congrArg Prod.fst h1', congrArg (fun z => z.2.1) h1', congrArg (fun z => z.2.2) h1'⟩
      obtain rfl := Option.some.inj h2
      exact ⟨ht, .inl rfl, .inl rfl⟩
  · rcases List.mem_append.mp hx with m | m
    · exact h.sp x (List.mem_cons_of_mem _ m)
    · simp at m
      rcases m with rfl | rfl
      · exact hsp.behind ht true
      · exact hsp.behind ht false
  · rcases List.mem_append.mp hx with m | m
    · exact h.sd x (List.mem_cons_of_mem _ m)
    · simp at m
      rcases m with rfl | rfl
      · show 0 < 2; decide
      · show 1 < 2; decide
  · rcases List.mem_append.mp hx with m | m
    · rcases h.wt x (List.mem_cons_of_mem _ m) with ⟨_, _, e⟩ | ⟨p, y, st, e, a, b, c⟩
      · have := h.one e
        rw [List.length_cons] at this
        have hr : rest = [] := List.eq_nil_of_length_eq_zero (by omega)
        rw [hr] at m
        exact absurd m List.not_mem_nil
      · obtain ⟨y1, a1, e1⟩ := same p y a
        exact .inr ⟨p, y1, st, e, by rw [List.getElem?_append_left (List.getElem?_eq_some_iff.mp a1).1]; exact a1, by rw [List.getElem?_append_left (List.getElem?_eq_some_iff.mp b).1]; exact b, by rw [e1]; exact c⟩
    · simp at m
      rcases m with rfl | rfl
      · exact .inr ⟨nodes.length, (t, -1, -1), q.s, rfl, atk, stk, rfl⟩
      · exact .inr ⟨nodes.length, (t, -1, -1), q.s, rfl, atk, stk, rfl⟩
  · simp at e
  · have := h.few
    rw [List.length_cons] at this
    rw [List.length_append, List.length_append, hl]
    show rest.length + 2 ≤ nodes.length + 1 + 1
    omega
theorem Tr.tree {W : Web} {nodes : List Node} {sts : List Stand} (h : Tr W nodes sts []) : TreeOk W nodes sts := ⟨h.len, h.first, h.node⟩
end Dl

/-! grown trees, the walk -/
namespace Dl
open PySem PySem.Spec L2
open Km (Web Stand Wide Known Groups WebOk Node Tie TieOk GroupsOk TreeOk child)
abbrev nct (x : Node) : Ct := .lst [.d (dN x.1), .d (.int x.2.1), .d (.int x.2.2)]
abbrev n00 : Node := (0, 0, 0)
abbrev MG (d n0 w0 : Addr) (l : List Nat) (ps : Nat → Addr) (nodes : List Node) (wait : List Wt) : List Ob :=
  (d, dr l, true) :: (n0, .lst (gLst ps nodes.length), true) :: (w0, .lst ((wait.map dWt).map Arg.d), true) :: oObs nct n00 ps nodes
theorem at3 {α : Type} (a b c : α) (L : List α) (n : Nat) : (a :: b :: c :: L)[3 + n]? = L[n]? := by
  rw [Nat.add_comm]; rfl
theorem set3 {α : Type} (a b c y : α) (L : List α) (n : Nat) : (a :: b :: c :: L).set (3 + n) y = a :: b :: c :: L.set n y := by
  rw [Nat.add_comm]; rfl
theorem gLst_len (ps : Nat → Addr) (n : Nat) : (gLst ps n).length = n := by rw [List.length_map, List.length_range]
theorem dp_wt {wait : List Wt} : ∀ d ∈ wait.map dWt, (py d).depth ≤ 60 := fun d hd => by
  obtain ⟨q, _, rfl⟩ := List.mem_map.mp hd
  have := dp_S q.s
  simp only [py, pys, PyData.depth, PyData.depthAll] at this ⊢
  omega
section
variable {P : Program} {w : World} {K : PySem.W.Frag} {mg : Str → Option Value} {base : Heap}
def pr__law_grown : Prom := fun as m U => ∃ (d : Addr) (l : List Nat) (W : Web), as = [.a d, .d (dW W), .d (.int 12)] ∧ m = [(d, dr l, true)] ∧ Dr l ∧ WebOk W ∧ ∀ (nodes : List Node) (sts : List Stand) (l' : List Nat), TreeOk W nodes sts → nodes.length ≤ 12 → Dr l' → U (.d (.tup (nodes.map dNode))) [(d, dr l', true)]
theorem use__law_grown {U : Arg → List Ob → Prop} {d : Addr} {l : List Nat} {W : Web} (hD : Dr l) (hW : WebOk W) (k : ∀ (nodes : List Node) (sts : List Stand) (l' : List Nat), TreeOk W nodes sts → nodes.length ≤ 12 → Dr l' → U (.d (.tup (nodes.map dNode))) [(d, dr l', true)]) :
    pr__law_grown [.a d, .d (dW W), .d (.int 12)] [(d, dr l, true)] U := ⟨d, l, W, rfl, rfl, hD, hW, k⟩
theorem len__law_grown (as m W) (h : pr__law_grown as m W) : as.length = 3 := by obtain ⟨_, _, _, rfl, _⟩ := h; rfl
set_option hygiene false in
local macro_rules | `(tactic| walk_at "dl") => `(tactic| (repeat' (first
  | with_reducible refine wx_op ?_ | with_reducible refine wx_int ?_ | with_reducible refine wx_bl ?_ | with_reducible refine wx_non ?_ | with_reducible refine wa_cons ?_ | with_reducible refine wa_nil ?_
  | ((with_reducible apply wx_var); focus exact rfl)
  | with_reducible refine wx_tup ?_ | with_reducible refine wx_cb ?_ | with_reducible refine wx_negC ?_ | with_reducible refine wx_lst0 ?_
  | with_reducible refine ws_ret ?_ | with_reducible refine ws_seq ?_ | with_reducible refine ws_asg ?_ | with_reducible refine ws_drop ?_ | with_reducible refine ws_next ?_ | with_reducible refine ws_if ?_ | with_reducible refine ws_par ?_
  | with_reducible refine wt_test ?_ | with_reducible refine wt_b ?_ | with_reducible refine wt_not ?_ | with_reducible refine wt_and ?_ | with_reducible refine wt_or ?_
  | with_reducible refine wg_name ?_ | with_reducible refine wg_tup2 ?_ | with_reducible refine wg_tup3 ?_
  | ((with_reducible refine wr_modC ?_ ?_); (focus exact Nat.zero_lt_succ _)) | ((with_reducible refine wr_modN ?_ ?_); (focus first | omega | assumption)) | ((with_reducible refine wr_divC ?_ ?_ ?_); (focus exact Nat.zero_lt_succ _); (focus exact Nat.le_of_ble_eq_true rfl))
  | with_reducible refine wr_addN ?_ | with_reducible refine wr_addL ?_ | with_reducible refine wr_addR ?_ | ((with_reducible refine wr_subR ?_ ?_); (focus omega)) | ((with_reducible refine wr_subL ?_ ?_); (focus omega))
  | ((with_reducible refine wr_mulN ?_ ?_); (focus omega)) | ((with_reducible refine wr_mulL ?_ ?_); (focus exact Nat.le_of_ble_eq_true rfl))
  | with_reducible refine wc_maxN ?_ | with_reducible refine wc_maxL ?_ | with_reducible refine wc_minN ?_
  | with_reducible refine wc_minR ?_ | with_reducible refine wc_lenS ?_ | with_reducible refine wc_absN ?_ | with_reducible refine wr_pow18 ?_
  | with_reducible refine wc_intBN ?_
  | with_reducible refine wr_i0 ?_ | with_reducible refine wr_b0 ?_ | with_reducible refine wr_eqI ?_ | with_reducible refine wr_neI ?_ | with_reducible refine wr_i ?_ ?_
  | ((with_reducible apply wr_ixT); focus exact rfl)
  | with_reducible refine wc_abs ?_ | with_reducible refine wc_lenM ?_ | with_reducible refine wc_lenT ?_ | with_reducible refine wc_max2 ?_ | with_reducible refine wc_min2 ?_ | with_reducible refine wc_intB ?_
  | with_reducible refine ⟨_, rfl, ?_⟩ | with_reducible refine ⟨_, _, rfl, ?_⟩
  | with_reducible refine ⟨[_], map1, len1, ?_⟩ | with_reducible refine ⟨[_, _], map2, len2, ?_⟩ | with_reducible refine ⟨[_, _, _], map3, len3, ?_⟩ | with_reducible refine ⟨[_, _, _, _], map4, len4, ?_⟩ | with_reducible refine ⟨[], map0, len0, ?_⟩
  | with_reducible refine wx_lcT ?_ | with_reducible refine wx_lcT2 ?_ | with_reducible refine wx_lcL ?_ | with_reducible refine wx_lcR ?_ | with_reducible refine wx_lcE ?_ | with_reducible refine wx_cut2 ?_ | with_reducible refine wx_cut_2 ?_ | with_reducible refine wt_yes ?_
  | with_reducible refine ws_forT ?_ | with_reducible refine ws_forL ?_ | with_reducible refine ws_forV ?_ | with_reducible refine ws_forR ?_ | with_reducible refine ws_forE ?_ | with_reducible refine ws_forZ ?_
  | with_reducible refine wr_inN ?_ | with_reducible refine wr_inN2 ?_ | ((with_reducible apply wr_ixT); focus exact tie_at (by assumption)) | ((with_reducible apply wr_ixT); focus exact pat_at (by assumption))
  | with_reducible refine wc_tupZ ?_ | with_reducible refine wc_lenZ ?_ | with_reducible refine wc_allZ ?_ | with_reducible refine wc_sumZ ?_ | with_reducible refine wc_sortTN ?_ | with_reducible refine wc_sortLK ?_
  | ((with_reducible refine wr_catN ?_ ?_); focus (first | omega | skip)) | ((with_reducible refine wr_catN1 ?_ ?_); focus (first | omega | skip)) | ((with_reducible refine wr_catN2 ?_ ?_); focus (first | omega | skip))
  | with_reducible refine ⟨_, _, _, rfl, ?_⟩ | with_reducible refine ⟨_, _, _, _, rfl, ?_⟩
  | with_reducible refine wr_catT (xs := [_, _]) (ys := [_]) cat21 ?_ | with_reducible refine wr_catT (xs := [_, _]) (ys := [_, _]) cat22 ?_
  | with_reducible refine ⟨rfl, ?_⟩
  | assumption
  | with_reducible refine wx_call0 (A := pr__law_askable) ?_ | with_reducible refine use__law_askable ?_ ?_ ?_
  | with_reducible refine wx_callP (A := pr__law_behind) ?_ | with_reducible refine use__law_behind ?_ ?_ ?_ ?_
  | fail)))

theorem ok__law_grown (T : Txt K mg) (G_law_askable : FnOk P w K mg base CX0 3 T._law_askable.f T._law_askable.fd ["_law_web_here", "_law_stand"] (spD P w K pr__law_askable)) (G_law_behind : FnOk P w K mg base CX0 1 T._law_behind.f T._law_behind.fd ["_law_web_here", "_law_stand", "_law_tie", "_law_truth"] (spD P w K pr__law_behind)) (G_law_next : FnOk P w K mg base CX0 1 T._law_next.f T._law_next.fd ["_law_drawn"] (spD P w K pr__law_next)) : FnOk P w K mg base CX0 4 T._law_grown.f T._law_grown.fd ["_law_drawn", "_law_web_here", "_law_most"] (spD P w K pr__law_grown) := by
  refine fnD T._law_grown.F sc__law_grown len__law_grown (fun cdv Ar outer s H E hr => ⟨_, (pss_cons (ps_set (i := 3) sc__law_grown.nd rfl (by first | exact Or.inl rfl | exact Or.inr rfl) (pe_lst pa_nil))
    (pss_cons (ps_set (i := 4) sc__law_grown.nd rfl (by first | exact Or.inl rfl | exact Or.inr rfl) (pe_lst (pa_cons (pe_tup (pa_cons (pe_tup (pa_cons (pe_tup pa_nil) (pa_cons (pe_tup pa_nil) pa_nil))) (pa_cons (pe_un un_neg pe_int) (pa_cons pe_int pa_nil)))) pa_nil)))
    (pss_cons (ps_while PassesOwn.never (pt_cmpR (show OpR _ _ (rNeD K) from op_neD hr.units) (pv 4) (pe_lst pa_nil) (nomark _))
    (pss_cons (ps_asg (show PE _ _ (tBM K "list" rPopAt _ _) from pe_bm PySem.F.plainAttrs_list PySem.F.slot_list_pop PySem.F.type_list_pop mt_popAt (pv 4) (pa_cons pe_int pa_nil)) (show PG _ _ (gTup K 3 _) from pg_tup (n := 3) rfl (pgs_cons (pg_name (i := 5) sc__law_grown.nd rfl (by first | exact Or.inl rfl | exact Or.inr rfl)) (pgs_cons (pg_name (i := 6) sc__law_grown.nd rfl (by first | exact Or.inl rfl | exact Or.inr rfl)) (pgs_cons (pg_name (i := 7) sc__law_grown.nd rfl (by first | exact Or.inl rfl | exact Or.inr rfl)) pgs_nil)))))
     (pss_cons (ps_set (i := 8) sc__law_grown.nd rfl (by first | exact Or.inl rfl | exact Or.inr rfl) (pe_call G_law_askable (hr.mono (by decide)) rfl T._law_askable.g T._law_askable.F.kp T._law_askable.b .nil pass0 (pa_cons (pv 1) (pa_cons (pv 5) pa_nil))))
     (pss_cons (ps_set (i := 9) sc__law_grown.nd rfl (by first | exact Or.inl rfl | exact Or.inr rfl) (pe_call G_law_next (hr.mono (by decide)) rfl T._law_next.g T._law_next.F.kp T._law_next.b .nil pass0 (pa_cons (pv 0) pa_nil)))
     (pss_one (ps_if (PW.pt (pw_and (pt_cmpR (show OpR _ _ (rNeD K) from op_neD hr.units) (pv 8) (pe_lst pa_nil) (nomark _)) (pw_and (pt_cmpR op_lt (pe_callB (show CallR _ _ (rLen K) from call_len_seq) (by rfl) T.len PySem.boot_len (pa_cons (pv 3) pa_nil)) (pv 2) (nomark _)) (pw_and1 (PW.pt (pw_or (pt_cmpR op_ne (pe_op op_mod (pv 9) pe_int) pe_int (nomark _)) (pw_or1 (pt_cmpR op_lt (pv 6) pe_int (nomark _))))))))) (pss_cons (ps_set (i := 10) sc__law_grown.nd rfl (by first | exact Or.inl rfl | exact Or.inr rfl) (pe_ix (show IxR _ (rIxL K) from ix_list) (pv 8) (pe_op op_mod (pe_op op_fdivW (pv 9) pe_int) (pe_callB (show CallR _ _ (rLen K) from call_len_seq) (by rfl) T.len PySem.boot_len (pa_cons (pv 8) pa_nil))) (fun _ _ => rfl)))
      (pss_cons (ps_if (pt_cmpR op_ge (pv 6) pe_int (nomark _)) (pss_one (ps_asg (pe_callB (show CallR _ _ (rLen K) from call_len_seq) (by rfl) T.len PySem.boot_len (pa_cons (pv 3) pa_nil)) (pg_sub (pe_ix (show IxR _ (rIxL K) from ix_list) (pv 3) (pv 6) (fun _ _ => rfl)) (pe_op op_add pe_int (pv 7)) set_list))) pss_nil)
      (pss_cons (ps_expr (show PE _ _ (tBM K "list" rAppend _ _) from pe_bm PySem.F.plainAttrs_list PySem.F.slot_list_append PySem.F.type_list_append mt_append (pv 4) (pa_cons (pe_tup (pa_cons (pe_call G_law_behind (hr.mono (by decide)) rfl T._law_behind.g T._law_behind.F.kp T._law_behind.b .nil pass0 (pa_cons (pv 1) (pa_cons (pv 5) (pa_cons (pv 10) (pa_cons pe_bl pa_nil))))) (pa_cons (pe_callB (show CallR _ _ (rLen K) from call_len_seq) (by rfl) T.len PySem.boot_len (pa_cons (pv 3) pa_nil)) (pa_cons pe_int pa_nil)))) pa_nil)))
      (pss_cons (ps_expr (show PE _ _ (tBM K "list" rAppend _ _) from pe_bm PySem.F.plainAttrs_list PySem.F.slot_list_append PySem.F.type_list_append mt_append (pv 4) (pa_cons (pe_tup (pa_cons (pe_call G_law_behind (hr.mono (by decide)) rfl T._law_behind.g T._law_behind.F.kp T._law_behind.b .nil pass0 (pa_cons (pv 1) (pa_cons (pv 5) (pa_cons (pv 10) (pa_cons pe_bl pa_nil))))) (pa_cons (pe_callB (show CallR _ _ (rLen K) from call_len_seq) (by rfl) T.len PySem.boot_len (pa_cons (pv 3) pa_nil)) (pa_cons pe_int pa_nil)))) pa_nil)))
      (pss_one (ps_expr (show PE _ _ (tBM K "list" rAppend _ _) from pe_bm PySem.F.plainAttrs_list PySem.F.slot_list_append PySem.F.type_list_append mt_append (pv 3) (pa_cons (pe_lst (pa_cons (pv 10) (pa_cons (pe_un un_neg pe_int) (pa_cons (pe_un un_neg pe_int) pa_nil)))) pa_nil)))))))) pss_nil))))))
    (pss_one (ps_ret (pe_callTy (show CallR _ _ (rTupOf K) from call_tuple_of) (by rfl) T.tuple PyProof.Rows.boot_tuple (pa_cons (pe_lc (own := [("_law_node", 11)]) rfl sc__law_grown.nd (show PI _ _ _ (iList K _) from pi_list (pv 3)) (blkOk_by (N := N__law_grown) (sc := defScope s__law_grown) (by decide +kernel)) (fun _ _ _ _ _ =>  (pg_name (i := 11) sc__law_grown.nd rfl (by first | exact Or.inl rfl | exact Or.inr rfl))) (fun _ _ _ _ _ =>  pts_nil) (fun _ _ _ _ _ =>  (pe_callTy (show CallR _ _ (rTupOf K) from call_tuple_of) (by rfl) T.tuple PyProof.Rows.boot_tuple (pa_cons (pv 11) pa_nil)))) pa_nil))))))), fun as m W h => ?_⟩)
  try dsimp only [cxOf, Cx.nox, Cx.wish]
  obtain ⟨d, l, W', rfl, rfl, hD, hW, k⟩ := h
  have h5 := web5 hW
  refine ws_cut (fun S1 => ∃ n0, S1 = ⟨[some (.a d), some (.d (dW W')), some (.d (.int 12)), some (.a n0), none, none, none, none, none, none, none, none], [(d, dr l, true), (n0, .lst [], true)]⟩) ?_ ?_
  · walk_at "dl"
    intro n0
    walk_at "dl"
    exact ⟨n0, rfl⟩
  rintro S1 ⟨n0, rfl⟩
  refine ws_cut (fun S1 => ∃ w0, S1 = ⟨[some (.a d), some (.d (dW W')), some (.d (.int 12)), some (.a n0), some (.a w0), none, none, none, none, none, none, none], MG d n0 w0 l (fun _ => 0) [] [⟨([], []), -1, 0⟩]⟩) ?_ ?_
  · walk_at "dl"
    refine wx_lst (wa_cons ?_)
    walk_at "dl"
    refine ⟨len_le rfl, fun w0 => ?_⟩
    walk_at "dl"
    exact ⟨w0, rfl⟩
  rintro S1 ⟨w0, rfl⟩
  walk_at "dl"
  refine ws_while (fun mm S' => ∃ (l : List Nat) (nodes : List Node) (sts : List Stand) (wait : List Wt) (ps : Nat → Addr) (o5 o6 o7 o8 o9 o10 : Option Arg), Dr l ∧ Tr W' nodes sts wait ∧ mm = 3 * (12 - nodes.length) + wait.length ∧ S' = ⟨[some (.a d), some (.d (dW W')), some (.d (.int 12)), some (.a n0), some (.a w0), o5, o6, o7, o8, o9, o10, none], MG d n0 w0 l ps nodes wait⟩)
    (3 * (12 - 0) + 1) ⟨l, [], [], _, _, none, none, none, none, none, none, hD, Tr.start W', rfl, rfl⟩ ?_
  rintro mm S' ⟨l, nodes, sts, wait, ps, o5, o6, o7, o8, o9, o10, hD, hT, rfl, rfl⟩
  have hsm := hT.small
  walk_at "dl"
  intro q0
  apply wr_neZ (n := 2)
  · exact rfl
  · exact dp_list dp_wt
  refine ⟨_, rfl, fun hc => ?_, fun hc => ?_⟩
  · obtain ⟨q, rest, rfl⟩ : ∃ q rest, wait = q :: rest := by
      cases wait with
      | nil => exact absurd hc (by decide)
      | cons q rest => exact ⟨q, rest, rfl⟩
    have hsp := hT.sp q List.mem_cons_self
    have hsd := hT.sd q List.mem_cons_self
    have hfw := hT.few
    rw [List.length_cons] at hfw
    -- the first of those that wait
    refine ws_cut (fun S1 => S1 = ⟨[some (.a d), some (.d (dW W')), some (.d (.int 12)), some (.a n0), some (.a w0), some (.d (dS q.s)), some (.d (.int q.p)), some (.d (dN q.side)), o8, o9, o10, none], MG d n0 w0 l ps nodes rest⟩) ?_ ?_
    · walk_at "dl"
      refine wx_pop0 ?_
      walk_at "dl"
      refine ⟨_, 2, _, _, rfl, rfl, ?_⟩
      walk_at "dl"
      refine ⟨_, _, rfl, rfl, ?_⟩
      walk_at "dl"
      rfl
    rintro S1 rfl
    -- what may be asked
    refine ws_cut (fun S1 => ∃ al, S1 = ⟨[some (.a d), some (.d (dW W')), some (.d (.int 12)), some (.a n0), some (.a w0), some (.d (dS q.s)), some (.d (.int q.p)), some (.d (dN q.side)), some (.a al), o9, o10, none], MG d n0 w0 l ps nodes rest ++ [(al, .lst ((Km.askable W' q.s).map fun t => .d (dN t)), true)]⟩) ?_ ?_
    · walk_at "dl"
      intro al
      walk_at "dl"
      exact ⟨al, rfl⟩
    rintro S1 ⟨al, rfl⟩
    -- a number
    refine ws_cut (fun S1 => ∃ (l : List Nat) (x : Nat), Dr l ∧ S1 = ⟨[some (.a d), some (.d (dW W')), some (.d (.int 12)), some (.a n0), some (.a w0), some (.d (dS q.s)), some (.d (.int q.p)), some (.d (dN q.side)), some (.a al), some (.d (dN x)), o10, none], MG d n0 w0 l ps nodes rest ++ [(al, .lst ((Km.askable W' q.s).map fun t => .d (dN t)), true)]⟩) ?_ ?_
    · walk_at "dl"
      refine wx_call1 ?_
      walk_at "dl"
      refine ⟨0, _, _, rfl, use__law_next hD fun x1 l1 hx1 hD1 => ?_⟩
      walk_at "dl"
      exact ⟨l1, x1, hD1, rfl⟩
    rintro S1 ⟨l, x, hD, rfl⟩
    have hal : ∀ X : Ob, (MG d n0 w0 l ps nodes rest ++ [X])[3 + nodes.length]? = some X := fun X => by
      show ((d, dr l, true) :: (n0, _, true) :: (w0, _, true) :: (oObs nct n00 ps nodes ++ [X]))[3 + nodes.length]? = _
      rw [at3, oObs_end]
    have eA : (Km.askable W' q.s).map (fun t => Arg.d (dN t)) = ((Km.askable W' q.s).map dN).map Arg.d := by rw [List.map_map]; rfl
    rw [eA]
    walk_at "dl"
    intro q1
    apply wr_neZ (n := 3 + nodes.length)
    · exact hal _
    · exact dp_list dp_N
    refine ⟨_, rfl, fun hne => ?_, fun _ => ⟨(fun h => nomatch h), fun _ => ?_⟩⟩
    · walk_at "dl"
      refine wc_lenL (n := 1) rfl ?_
      walk_at "dl"
      refine ⟨fun hlt => ?_, fun _ => ⟨(fun h => nomatch h), fun _ => ?_⟩⟩
      · have hn12 : nodes.length < 12 := by
          have := of_decide_eq_true hlt
          rw [List.length_map, List.length_range] at this
          omega
        have hA0 : 0 < (Km.askable W' q.s).length := by
          cases hq : Km.askable W' q.s with
          | nil => rw [hq] at hne; exact absurd hne (by decide)
          | cons y r => simp
        have hr : x / 7 % (Km.askable W' q.s).length < (Km.askable W' q.s).length := nx_mod hA0
        have hjm : (Km.askable W' q.s).getD (x / 7 % (Km.askable W' q.s).length) 0 ∈ Km.askable W' q.s := getD_mem 0 hr
        have hat : (((Km.askable W' q.s).map dN).map Arg.d)[x / 7 % (Km.askable W' q.s).length]? = some (.d (dN ((Km.askable W' q.s).getD (x / 7 % (Km.askable W' q.s).length) 0))) := by
          rw [List.getElem?_map, map_at 0 dN hr]
          rfl
        walk_at "dl"
        refine ⟨fun _ => ⟨fun _ => ?_, fun h => nomatch h⟩, fun _ => ?_⟩
        · refine ws_cut (fun S1 => ∃ t, t ∈ Km.askable W' q.s ∧ S1 = ⟨[some (.a d), some (.d (dW W')), some (.d (.int 12)), some (.a n0), some (.a w0), some (.d (dS q.s)), some (.d (.int q.p)), some (.d (dN q.side)), some (.a al), some (.d (dN x)), some (.d (dN t)), none], MG d n0 w0 l ps nodes rest ++ [(al, .lst (((Km.askable W' q.s).map dN).map Arg.d), true)]⟩) ?_ ?_
          · refine ws_asg (wx_op ?_)
            refine wx_var (x := .a al) rfl (wx_op (wx_op ?_))
            refine wx_var (x := .d (dN x)) rfl (wx_int ?_)
            refine wr_divC (by decide) (by decide) ?_
            refine wx_cb (wa_cons ?_)
            refine wx_var (x := .a al) rfl (wa_nil ?_)
            apply wc_lenL (n := 3 + nodes.length)
            · exact hal _
            rw [dr_len]
            walk_at "dl"
            apply wr_ixL (n := 3 + nodes.length)
            · exact hal _
            · exact atI_nat hat
            walk_at "dl"
            exact ⟨_, hjm, rfl⟩
          rintro S1 ⟨t, htm, rfl⟩
          have ht : t < W'.n := (Km.mem_askable.mp htm).1
          refine ws_cut (fun S1 => ∃ nodes1 : List Node, nodes1.length = nodes.length ∧ (∀ (i : Nat) (x : Node), nodes1[i]? = some x → nodes[i]? = some x ∨ ∃ (x0 : Node) (st : Stand), nodes[i]? = some x0 ∧ sts[i]? = some st ∧ q.s = Km.behind W' st x0.1 (decide (q.side = 0)) ∧ x = upd1 x0 q.side (nodes.length : Int)) ∧
            S1 = ⟨[some (.a d), some (.d (dW W')), some (.d (.int 12)), some (.a n0), some (.a w0), some (.d (dS q.s)), some (.d (.int q.p)), some (.d (dN q.side)), some (.a al), some (.d (dN x)), some (.d (dN t)), none], MG d n0 w0 l ps nodes1 rest ++ [(al, .lst (((Km.askable W' q.s).map dN).map Arg.d), true)]⟩) ?_ ?_
          · walk_at "dl"
            refine ⟨fun hp => ?_, fun _ => ?_⟩
            · have hp0 : 0 ≤ q.p := of_decide_eq_true hp
              obtain ⟨p, x0, st, ep, a, b, c⟩ : ∃ (p : Nat) (x : Node) (st : Stand), q.p = (p : Int) ∧ nodes[p]? = some x ∧ sts[p]? = some st ∧ q.s = Km.behind W' st x.1 (decide (q.side = 0)) := by
                rcases hT.wt q List.mem_cons_self with ⟨e, _⟩ | h
                · omega
                · exact h
              have hpl := (List.getElem?_eq_some_iff.mp a).1
              have hx0 : nodes.getD p n00 = x0 := by rw [List.getD_eq_getElem?_getD, a]; rfl
              have hside : q.side = 0 ∨ q.side = 1 := by omega
              walk_at "dl"
              refine wc_lenL (n := 1) rfl ?_
              rw [gLst_len]
              refine wg_sub ?_
              walk_at "dl"
              refine wr_ixL (n := 1) rfl (i := q.p) (x := .a (ps p)) (by rw [ep]; exact atI_nat (gLst_at hpl)) ?_
              walk_at "dl"
              refine ⟨ps p, 3 + p, [.d (dN x0.1), .d (.int x0.2.1), .d (.int x0.2.2)], 1 + q.side, ((1 + q.side : Nat) : Int), rfl, rfl, ?_, ?_, ?_⟩
              · show ((d, dr l, true) :: (n0, _, true) :: (w0, _, true) :: (oObs nct n00 ps nodes ++ [_]))[3 + p]? = _
                rw [at3, oObs_at hpl]
                show some (ps p, nct (nodes.getD p n00), true) = _
                rw [hx0]
              · rcases hside with e | e <;> rw [e] <;> rfl
              · refine ⟨nodes.set p (upd1 x0 q.side (nodes.length : Int)), by rw [List.length_set], fun i y hy => ?_, ?_⟩
                · rw [List.getElem?_set] at hy
                  by_cases hip : p = i
                  · subst hip
                    rw [if_pos rfl, if_pos hpl] at hy
                    exact .inr ⟨x0, st, a, b, c, (Option.some.inj hy).symm⟩
                  · rw [if_neg hip] at hy
                    exact .inl hy
                · have hset : Ct.lst (([.d (dN x0.1), .d (.int x0.2.1), .d (.int x0.2.2)] : List Arg).set (1 + q.side) (.d (.int ((nodes.length : Nat) : Int)))) = nct (upd1 x0 q.side (nodes.length : Int)) := by
                    rcases hside with e | e <;> rw [e] <;> rfl
                  show (⟨_, ((d, dr l, true) :: (n0, .lst (gLst ps nodes.length), true) :: (w0, .lst ((rest.map dWt).map Arg.d), true) :: (oObs nct n00 ps nodes ++ [(al, .lst (((Km.askable W' q.s).map dN).map Arg.d), true)])).set (3 + p) (ps p, Ct.lst (([.d (dN x0.1), .d (.int x0.2.1), .d (.int x0.2.2)] : List Arg).set (1 + q.side) (.d (.int ((nodes.length : Nat) : Int)))), true)⟩ : Sy) = _
                  rw [set3, List.set_append_left _ _ (by simpa using hpl), hset, oObs_set hpl]
                  unfold MG
                  rw [List.length_set]
                  rfl
            · walk_at "dl"
              exact ⟨fun i y hy => .inl hy, rfl⟩
          rintro S1 ⟨nodes1, hl1, hn1, rfl⟩
          walk_at "dl"
          refine wx_app ?_
          walk_at "dl"
          refine ⟨_, 2, _, _, rfl, rfl, ?_⟩
          walk_at "dl"
          refine wc_lenL (n := 1) rfl ?_
          rw [gLst_len]
          walk_at "dl"
          refine ⟨_, _, rfl, rfl, by rw [List.length_map, List.length_map]; omega, ?_⟩
          walk_at "dl"
          refine wx_app ?_
          walk_at "dl"
          refine ⟨_, 2, _, _, rfl, rfl, ?_⟩
          walk_at "dl"
          refine wc_lenL (n := 1) rfl ?_
          rw [gLst_len]
          walk_at "dl"
          refine ⟨_, _, rfl, rfl, by rw [List.length_append, List.length_map, List.length_map]; show _ + 1 < _; omega, ?_⟩
          walk_at "dl"
          refine wx_app ?_
          walk_at "dl"
          refine ⟨_, 1, _, _, rfl, rfl, ?_⟩
          walk_at "dl"
          refine wx_lst (wa_cons ?_)
          walk_at "dl"
          refine ⟨len_le rfl, fun q2 => ?_⟩
          walk_at "dl"
          refine ⟨_, _, rfl, rfl, by rw [gLst_len]; omega, ?_⟩
          refine ⟨3 * (12 - (nodes1 ++ [((t, -1, -1) : Node)]).length) + (rest ++ ([⟨Km.behind W' q.s t true, (nodes.length : Int), 0⟩, ⟨Km.behind W' q.s t false, (nodes.length : Int), 1⟩] : List Wt)).length, ⟨[some (.a d), some (.d (dW W')), some (.d (.int 12)), some (.a n0), some (.a w0), some (.d (dS q.s)), some (.d (.int q.p)), some (.d (dN q.side)), some (.a al), some (.d (dN x)), some (.d (dN t)), none], MG d n0 w0 l (addP ps nodes1.length q2) (nodes1 ++ [(t, -1, -1)]) (rest ++ ([⟨Km.behind W' q.s t true, (nodes.length : Int), 0⟩, ⟨Km.behind W' q.s t false, (nodes.length : Int), 1⟩] : List Wt))⟩, ?_, ⟨fun _ _ h => h, rfl, ?_⟩, l, _, sts ++ [q.s], _, _, _, _, _, _, _, _, hD, hT.grow htm hn12 hl1 hn1, rfl, rfl⟩
          · rw [List.length_append, List.length_append, hl1]
            show 3 * (12 - (nodes.length + 1)) + (rest.length + 2) < 3 * (12 - nodes.length) + (rest.length + 1)
            omega
          · show List.Sublist _ ((d, dr l, true) :: (n0, .lst (gLst ps nodes1.length ++ [.a q2]), true) :: (w0, .lst (((rest.map dWt).map Arg.d ++ [Arg.d (.tup [dS (Km.behind W' q.s t true), .int ((nodes1.length : Nat) : Int), .int 0])]) ++ [Arg.d (.tup [dS (Km.behind W' q.s t false), .int ((nodes1.length : Nat) : Int), .int 1])]), true) :: (oObs nct n00 ps nodes1 ++ [(al, .lst (((Km.askable W' q.s).map dN).map Arg.d), true)] ++ [(q2, nct (t, -1, -1), true)]))
            unfold MG
            rw [← oObs_new, List.length_append, show nodes1.length + [((t, -1, -1) : Node)].length = nodes1.length + 1 from rfl, ← gLst_new, List.map_append, List.map_append, ← hl1]
            rw [List.append_assoc (List.map Arg.d (List.map dWt rest))]
            exact (((List.Sublist.append (List.sublist_append_left _ _) (List.Sublist.refl _)).cons₂ _).cons₂ _).cons₂ _
        · walk_at "dl"
          refine ⟨fun _ => ?_, fun _ => ?_⟩
          · refine ws_cut (fun S1 => ∃ t, t ∈ Km.askable W' q.s ∧ S1 = ⟨[some (.a d), some (.d (dW W')), some (.d (.int 12)), some (.a n0), some (.a w0), some (.d (dS q.s)), some (.d (.int q.p)), some (.d (dN q.side)), some (.a al), some (.d (dN x)), some (.d (dN t)), none], MG d n0 w0 l ps nodes rest ++ [(al, .lst (((Km.askable W' q.s).map dN).map Arg.d), true)]⟩) ?_ ?_
            · refine ws_asg (wx_op ?_)
              refine wx_var (x := .a al) rfl (wx_op (wx_op ?_))
              refine wx_var (x := .d (dN x)) rfl (wx_int ?_)
              refine wr_divC (by decide) (by decide) ?_
              refine wx_cb (wa_cons ?_)
              refine wx_var (x := .a al) rfl (wa_nil ?_)
              apply wc_lenL (n := 3 + nodes.length)
              · exact hal _
              rw [dr_len]
              walk_at "dl"
              apply wr_ixL (n := 3 + nodes.length)
              · exact hal _
              · exact atI_nat hat
              walk_at "dl"
              exact ⟨_, hjm, rfl⟩
            rintro S1 ⟨t, htm, rfl⟩
            have ht : t < W'.n := (Km.mem_askable.mp htm).1
            refine ws_cut (fun S1 => ∃ nodes1 : List Node, nodes1.length = nodes.length ∧ (∀ (i : Nat) (x : Node), nodes1[i]? = some x → nodes[i]? = some x ∨ ∃ (x0 : Node) (st : Stand), nodes[i]? = some x0 ∧ sts[i]? = some st ∧ q.s = Km.behind W' st x0.1 (decide (q.side = 0)) ∧ x = upd1 x0 q.side (nodes.length : Int)) ∧
              S1 = ⟨[some (.a d), some (.d (dW W')), some (.d (.int 12)), some (.a n0), some (.a w0), some (.d (dS q.s)), some (.d (.int q.p)), some (.d (dN q.side)), some (.a al), some (.d (dN x)), some (.d (dN t)), none], MG d n0 w0 l ps nodes1 rest ++ [(al, .lst (((Km.askable W' q.s).map dN).map Arg.d), true)]⟩) ?_ ?_
            · walk_at "dl"
              refine ⟨fun hp => ?_, fun _ => ?_⟩
              · have hp0 : 0 ≤ q.p := of_decide_eq_true hp
                obtain ⟨p, x0, st, ep, a, b, c⟩ : ∃ (p : Nat) (x : Node) (st : Stand), q.p = (p : Int) ∧ nodes[p]? = some x ∧ sts[p]? = some st ∧ q.s = Km.behind W' st x.1 (decide (q.side = 0)) := by
                  rcases hT.wt q List.mem_cons_self with ⟨e, _⟩ | h
                  · omega
                  · exact h
                have hpl := (List.getElem?_eq_some_iff.mp a).1
                have hx0 : nodes.getD p n00 = x0 := by rw [List.getD_eq_getElem?_getD, a]; rfl
                have hside : q.side = 0 ∨ q.side = 1 := by omega
                walk_at "dl"
                refine wc_lenL (n := 1) rfl ?_
                rw [gLst_len]
                refine wg_sub ?_
                walk_at "dl"
                refine wr_ixL (n := 1) rfl (i := q.p) (x := .a (ps p)) (by rw [ep]; exact atI_nat (gLst_at hpl)) ?_
                walk_at "dl"
                refine ⟨ps p, 3 + p, [.d (dN x0.1), .d (.int x0.2.1), .d (.int x0.2.2)], 1 + q.side, ((1 + q.side : Nat) : Int), rfl, rfl, ?_, ?_, ?_⟩
                · show ((d, dr l, true) :: (n0, _, true) :: (w0, _, true) :: (oObs nct n00 ps nodes ++ [_]))[3 + p]? = _
                  rw [at3, oObs_at hpl]
                  show some (ps p, nct (nodes.getD p n00), true) = _
                  rw [hx0]
                · rcases hside with e | e <;> rw [e] <;> rfl
                · refine ⟨nodes.set p (upd1 x0 q.side (nodes.length : Int)), by rw [List.length_set], fun i y hy => ?_, ?_⟩
                  · rw [List.getElem?_set] at hy
                    by_cases hip : p = i
                    · subst hip
                      rw [if_pos rfl, if_pos hpl] at hy
                      exact .inr ⟨x0, st, a, b, c, (Option.some.inj hy).symm⟩
                    · rw [if_neg hip] at hy
                      exact .inl hy
                  · have hset : Ct.lst (([.d (dN x0.1), .d (.int x0.2.1), .d (.int x0.2.2)] : List Arg).set (1 + q.side) (.d (.int ((nodes.length : Nat) : Int)))) = nct (upd1 x0 q.side (nodes.length : Int)) := by
                      rcases hside with e | e <;> rw [e] <;> rfl
                    show (⟨_, ((d, dr l, true) :: (n0, .lst (gLst ps nodes.length), true) :: (w0, .lst ((rest.map dWt).map Arg.d), true) :: (oObs nct n00 ps nodes ++ [(al, .lst (((Km.askable W' q.s).map dN).map Arg.d), true)])).set (3 + p) (ps p, Ct.lst (([.d (dN x0.1), .d (.int x0.2.1), .d (.int x0.2.2)] : List Arg).set (1 + q.side) (.d (.int ((nodes.length : Nat) : Int)))), true)⟩ : Sy) = _
                    rw [set3, List.set_append_left _ _ (by simpa using hpl), hset, oObs_set hpl]
                    unfold MG
                    rw [List.length_set]
                    rfl
              · walk_at "dl"
                exact ⟨fun i y hy => .inl hy, rfl⟩
            rintro S1 ⟨nodes1, hl1, hn1, rfl⟩
            walk_at "dl"
            refine wx_app ?_
            walk_at "dl"
            refine ⟨_, 2, _, _, rfl, rfl, ?_⟩
            walk_at "dl"
            refine wc_lenL (n := 1) rfl ?_
            rw [gLst_len]
            walk_at "dl"
            refine ⟨_, _, rfl, rfl, by rw [List.length_map, List.length_map]; omega, ?_⟩
            walk_at "dl"
            refine wx_app ?_
            walk_at "dl"
            refine ⟨_, 2, _, _, rfl, rfl, ?_⟩
            walk_at "dl"
            refine wc_lenL (n := 1) rfl ?_
            rw [gLst_len]
            walk_at "dl"
            refine ⟨_, _, rfl, rfl, by rw [List.length_append, List.length_map, List.length_map]; show _ + 1 < _; omega, ?_⟩
            walk_at "dl"
            refine wx_app ?_
            walk_at "dl"
            refine ⟨_, 1, _, _, rfl, rfl, ?_⟩
            walk_at "dl"
            refine wx_lst (wa_cons ?_)
            walk_at "dl"
            refine ⟨len_le rfl, fun q2 => ?_⟩
            walk_at "dl"
            refine ⟨_, _, rfl, rfl, by rw [gLst_len]; omega, ?_⟩
            refine ⟨3 * (12 - (nodes1 ++ [((t, -1, -1) : Node)]).length) + (rest ++ ([⟨Km.behind W' q.s t true, (nodes.length : Int), 0⟩, ⟨Km.behind W' q.s t false, (nodes.length : Int), 1⟩] : List Wt)).length, ⟨[some (.a d), some (.d (dW W')), some (.d (.int 12)), some (.a n0), some (.a w0), some (.d (dS q.s)), some (.d (.int q.p)), some (.d (dN q.side)), some (.a al), some (.d (dN x)), some (.d (dN t)), none], MG d n0 w0 l (addP ps nodes1.length q2) (nodes1 ++ [(t, -1, -1)]) (rest ++ ([⟨Km.behind W' q.s t true, (nodes.length : Int), 0⟩, ⟨Km.behind W' q.s t false, (nodes.length : Int), 1⟩] : List Wt))⟩, ?_, ⟨fun _ _ h => h, rfl, ?_⟩, l, _, sts ++ [q.s], _, _, _, _, _, _, _, _, hD, hT.grow htm hn12 hl1 hn1, rfl, rfl⟩
            · rw [List.length_append, List.length_append, hl1]
              show 3 * (12 - (nodes.length + 1)) + (rest.length + 2) < 3 * (12 - nodes.length) + (rest.length + 1)
              omega
            · show List.Sublist _ ((d, dr l, true) :: (n0, .lst (gLst ps nodes1.length ++ [.a q2]), true) :: (w0, .lst (((rest.map dWt).map Arg.d ++ [Arg.d (.tup [dS (Km.behind W' q.s t true), .int ((nodes1.length : Nat) : Int), .int 0])]) ++ [Arg.d (.tup [dS (Km.behind W' q.s t false), .int ((nodes1.length : Nat) : Int), .int 1])]), true) :: (oObs nct n00 ps nodes1 ++ [(al, .lst (((Km.askable W' q.s).map dN).map Arg.d), true)] ++ [(q2, nct (t, -1, -1), true)]))
              unfold MG
              rw [← oObs_new, List.length_append, show nodes1.length + [((t, -1, -1) : Node)].length = nodes1.length + 1 from rfl, ← gLst_new, List.map_append, List.map_append, ← hl1]
              rw [List.append_assoc (List.map Arg.d (List.map dWt rest))]
              exact (((List.Sublist.append (List.sublist_append_left _ _) (List.Sublist.refl _)).cons₂ _).cons₂ _).cons₂ _
          · walk_at "dl"
            refine ⟨3 * (12 - nodes.length) + rest.length, ⟨[some (.a d), some (.d (dW W')), some (.d (.int 12)), some (.a n0), some (.a w0), some (.d (dS q.s)), some (.d (.int q.p)), some (.d (dN q.side)), some (.a al), some (.d (dN x)), o10, none], MG d n0 w0 l ps nodes rest⟩, by rw [List.length_cons]; omega, le_last, l, nodes, sts, rest, ps, _, _, _, _, _, _, hD, hT.skip, rfl, rfl⟩
      · walk_at "dl"
        refine ⟨3 * (12 - nodes.length) + rest.length, ⟨[some (.a d), some (.d (dW W')), some (.d (.int 12)), some (.a n0), some (.a w0), some (.d (dS q.s)), some (.d (.int q.p)), some (.d (dN q.side)), some (.a al), some (.d (dN x)), o10, none], MG d n0 w0 l ps nodes rest⟩, by rw [List.length_cons]; omega, le_last, l, nodes, sts, rest, ps, _, _, _, _, _, _, hD, hT.skip, rfl, rfl⟩
    · walk_at "dl"
      refine ⟨3 * (12 - nodes.length) + rest.length, ⟨[some (.a d), some (.d (dW W')), some (.d (.int 12)), some (.a n0), some (.a w0), some (.d (dS q.s)), some (.d (.int q.p)), some (.d (dN q.side)), some (.a al), some (.d (dN x)), o10, none], MG d n0 w0 l ps nodes rest⟩, by rw [List.length_cons]; omega, le_last, l, nodes, sts, rest, ps, _, _, _, _, _, _, hD, hT.skip, rfl, rfl⟩
  · have hw : wait = [] := by
      cases wait with
      | nil => rfl
      | cons q rest => simp at hc
    subst hw
    walk_at "dl"
    refine ⟨Nat, 0, List.range nodes.length, fun i => .a (ps i), n0, 1, true, rfl, rfl, by decide, by rw [List.length_range]; omega, fun _ => true, fun i => .d (dNode (nodes.getD i n00)), fun i ob hi => ?_, fun p => ?_⟩
    · have hi' := List.mem_range.mp hi
      walk_at "dl"
      refine ⟨fun _ => ?_, fun h => nomatch h⟩
      walk_at "dl"
      refine wc_tupL (n := 3 + i) (b := true) (ds := [dN (nodes.getD i n00).1, .int (nodes.getD i n00).2.1, .int (nodes.getD i n00).2.2]) ?_ ?_
      · show ((d, dr l, true) :: (n0, _, true) :: (w0, _, true) :: (oObs nct n00 ps nodes ++ [ob]))[3 + i]? = _
        rw [at3, oObs_at hi']
        rfl
      · exact ⟨rfl, List.prefix_refl _⟩
    · have e : ((List.range nodes.length).filter fun _ => true).map (fun i => Arg.d (dNode (nodes.getD i n00))) = (nodes.map dNode).map Arg.d := by
        rw [List.filter_eq_self.mpr (fun _ _ => rfl), List.map_map]
        refine List.ext_getElem? fun i => ?_
        by_cases hi : i < nodes.length
        · rw [List.getElem?_map, List.getElem?_range hi, List.getElem?_map, List.getElem?_eq_getElem hi]
          show some (Arg.d (dNode (nodes.getD i n00))) = some (Arg.d (dNode nodes[i]))
          rw [← List.getElem_eq_getD n00 (h := hi)]
        · rw [List.getElem?_eq_none (by simpa using hi), List.getElem?_eq_none (by simpa using hi)]
      rw [e]
      walk_at "dl"
      exact ⟨_, k nodes sts l hT.tree hsm hD, (List.nil_sublist _).cons₂ _⟩
end
end Dl

/-! the law -/
namespace Dl
open PySem PySem.Spec L2
open Km (Web Stand Wide Known Groups WebOk Node Tie TieOk GroupsOk TreeOk)
theorem alone_ok (W : Web) (hW : WebOk W) : GrOk W (Km.alone W.n) := by
  have h5 := web5 hW
  have hl : (Km.alone W.n).length = W.n := by unfold Km.alone; rw [List.length_map, List.length_range]
  refine ⟨by rw [hl]; omega, fun t ht => ?_⟩
  rw [Km.groupOf_alone ht, hl]
  exact ht
theorem alone_best (W : Web) : Km.vW W (Km.alone W.n) ([], [], []) = Km.vS W ([], []) := Km.vW_alone (W.n - 0) ([], [], []) (Km.WP.first W _)
theorem alone_list (n : Nat) : ((List.range n).filter fun _ => true).map (fun t => Arg.d (dNs [t])) = ((Km.alone n).map dNs).map Arg.d := by
  rw [List.filter_eq_self.mpr (fun _ _ => rfl)]
  unfold Km.alone
  rw [List.map_map, List.map_map]
  rfl
theorem not_less {p q : Km.Frc} (hp : Ok p) (hq : Ok q) (h : Km.val q ≤ Km.val p) : Km.less p q = false := by
  rw [Km.less_val hp.pos hq.pos]
  exact decide_eq_false (Rat.not_lt.mpr h)
section
variable {P : Program} {w : World} {K : PySem.W.Frag} {mg : Str → Option Value} {base : Heap}
def pr_law : Prom := lawP 63
theorem len_law (as m W) (h : pr_law as m W) : as.length = 1 := by obtain ⟨_, rfl, _⟩ := h; rfl
set_option hygiene false in
local macro_rules | `(tactic| walk_at "dl") => `(tactic| (repeat' (first
  | with_reducible refine wx_op ?_ | with_reducible refine wx_int ?_ | with_reducible refine wx_bl ?_ | with_reducible refine wx_non ?_ | with_reducible refine wa_cons ?_ | with_reducible refine wa_nil ?_
  | ((with_reducible apply wx_var); focus exact rfl)
  | with_reducible refine wx_tup ?_ | with_reducible refine wx_cb ?_ | with_reducible refine wx_negC ?_ | with_reducible refine wx_lst0 ?_
  | with_reducible refine ws_ret ?_ | with_reducible refine ws_seq ?_ | with_reducible refine ws_asg ?_ | with_reducible refine ws_drop ?_ | with_reducible refine ws_next ?_ | with_reducible refine ws_if ?_ | with_reducible refine ws_par ?_
  | with_reducible refine wt_test ?_ | with_reducible refine wt_b ?_ | with_reducible refine wt_not ?_ | with_reducible refine wt_and ?_ | with_reducible refine wt_or ?_
  | with_reducible refine wg_name ?_ | with_reducible refine wg_tup2 ?_ | with_reducible refine wg_tup3 ?_
  | ((with_reducible refine wr_modC ?_ ?_); (focus exact Nat.zero_lt_succ _)) | ((with_reducible refine wr_modN ?_ ?_); (focus first | omega | assumption)) | ((with_reducible refine wr_divC ?_ ?_ ?_); (focus exact Nat.zero_lt_succ _); (focus exact Nat.le_of_ble_eq_true rfl))
  | with_reducible refine wr_addN ?_ | with_reducible refine wr_addL ?_ | with_reducible refine wr_addR ?_ | ((with_reducible refine wr_subR ?_ ?_); (focus omega)) | ((with_reducible refine wr_subL ?_ ?_); (focus omega))
  | ((with_reducible refine wr_mulN ?_ ?_); (focus omega)) | ((with_reducible refine wr_mulL ?_ ?_); (focus exact Nat.le_of_ble_eq_true rfl))
  | with_reducible refine wc_maxN ?_ | with_reducible refine wc_maxL ?_ | with_reducible refine wc_minN ?_
  | with_reducible refine wc_minR ?_ | with_reducible refine wc_lenS ?_ | with_reducible refine wc_absN ?_ | with_reducible refine wr_pow18 ?_
  | with_reducible refine wc_intBN ?_
  | with_reducible refine wr_i0 ?_ | with_reducible refine wr_b0 ?_ | with_reducible refine wr_eqI ?_ | with_reducible refine wr_neI ?_ | with_reducible refine wr_i ?_ ?_
  | ((with_reducible apply wr_ixT); focus exact rfl)
  | with_reducible refine wc_abs ?_ | with_reducible refine wc_lenM ?_ | with_reducible refine wc_lenT ?_ | with_reducible refine wc_max2 ?_ | with_reducible refine wc_min2 ?_ | with_reducible refine wc_intB ?_
  | with_reducible refine ⟨_, rfl, ?_⟩ | with_reducible refine ⟨_, _, rfl, ?_⟩
  | with_reducible refine ⟨[_], map1, len1, ?_⟩ | with_reducible refine ⟨[_, _], map2, len2, ?_⟩ | with_reducible refine ⟨[_, _, _], map3, len3, ?_⟩ | with_reducible refine ⟨[_, _, _, _], map4, len4, ?_⟩ | with_reducible refine ⟨[], map0, len0, ?_⟩
  | with_reducible refine wx_lcT ?_ | with_reducible refine wx_lcT2 ?_ | with_reducible refine wx_lcL ?_ | with_reducible refine wx_lcR ?_ | with_reducible refine wx_lcE ?_ | with_reducible refine wx_cut2 ?_ | with_reducible refine wx_cut_2 ?_ | with_reducible refine wt_yes ?_
  | with_reducible refine ws_forT ?_ | with_reducible refine ws_forL ?_ | with_reducible refine ws_forV ?_ | with_reducible refine ws_forR ?_ | with_reducible refine ws_forE ?_ | with_reducible refine ws_forZ ?_
  | with_reducible refine wr_inN ?_ | with_reducible refine wr_inN2 ?_ | ((with_reducible apply wr_ixT); focus exact tie_at (by assumption)) | ((with_reducible apply wr_ixT); focus exact pat_at (by assumption))
  | with_reducible refine wc_tupZ ?_ | with_reducible refine wc_lenZ ?_ | with_reducible refine wc_allZ ?_ | with_reducible refine wc_sumZ ?_ | with_reducible refine wc_sortTN ?_ | with_reducible refine wc_sortLK ?_
  | ((with_reducible refine wr_catN ?_ ?_); focus (first | omega | skip)) | ((with_reducible refine wr_catN1 ?_ ?_); focus (first | omega | skip)) | ((with_reducible refine wr_catN2 ?_ ?_); focus (first | omega | skip))
  | with_reducible refine ⟨_, _, _, rfl, ?_⟩ | with_reducible refine ⟨_, _, _, _, rfl, ?_⟩
  | with_reducible refine wr_catT (xs := [_, _]) (ys := [_]) cat21 ?_ | with_reducible refine wr_catT (xs := [_, _]) (ys := [_, _]) cat22 ?_
  | with_reducible refine ⟨rfl, ?_⟩
  | assumption
  | with_reducible refine wx_call0 (A := pr__law_draws) ?_ | with_reducible refine use__law_draws ?_ ?_
  | with_reducible refine wx_callP (A := pr_together_table) ?_ | with_reducible refine use_together_table ?_ ?_ ?_
  | with_reducible refine wx_callP (A := pr__law_tried) ?_ | with_reducible refine use__law_tried ?_ ?_ ?_
  | with_reducible refine wx_callP (A := pr__law_same) ?_ | with_reducible refine use__law_same ?_ ?_
  | with_reducible refine wx_callP (A := pr__law_together) ?_ | with_reducible refine use__law_together ?_ ?_ ?_ ?_ ?_
  | with_reducible refine wx_callP (A := pr__law_less) ?_ | with_reducible refine use__law_less ?_ ?_ ?_
  | with_reducible refine wx_callP (A := pr_best_worth) ?_ | with_reducible refine use_best_worth ?_ ?_
  | fail)))

theorem ok_law (T : Txt K mg) (G_law_best : FnOk P w K mg base CX0 20 T._law_best.f T._law_best.fd ["_law_web_here", "_law_stand", "_law_known"] (spD P w K (pr__law_best 6))) (G_law_draws : FnOk P w K mg base CX0 2 T._law_draws.f T._law_draws.fd ["_law_script"] (spD P w K pr__law_draws)) (G_law_grouped : FnOk P w K mg base CX0 4 T._law_grouped.f T._law_grouped.fd ["_law_drawn", "_law_web_here"] (spD P w K pr__law_grouped)) (G_law_grown : FnOk P w K mg base CX0 4 T._law_grown.f T._law_grown.fd ["_law_drawn", "_law_web_here", "_law_most"] (spD P w K pr__law_grown)) (G_law_less : FnOk P w K mg base CX0 1 T._law_less.f T._law_less.fd ["_law_one", "_law_other"] (spD P w K pr__law_less)) (G_law_same : FnG P w K mg base 1 T._law_same.f T._law_same.fd ["_law_found", "_law_due"] (spD P w K pr__law_same)) (G_law_together : FnOk P w K mg base CX0 4 T._law_together.f T._law_together.fd ["_law_web_here", "_law_groups", "_law_tree"] (spD P w K pr__law_together)) (G_law_tried : FnOk P w K mg base CX0 5 T._law_tried.f T._law_tried.fd ["_law_web_here", "_law_groups"] (spD P w K pr__law_tried)) (G_law_web : FnOk P w K mg base CX0 5 T._law_web.f T._law_web.fd ["_law_drawn", "_law_most", "_law_ties_here"] (spD P w K pr__law_web)) (Gbest_worth : FnOk P w K mg base CX0 8 T.best_worth.f T.best_worth.fd ["web"] (spD P w K pr_best_worth)) (Gtogether_table : FnOk P w K mg base CX0 6 T.together_table.f T.together_table.fd ["web", "groups"] (spD P w K pr_together_table)) : FnG P w K mg base 21 T.law.f T.law.fd ["_law_script"] (spD P w K pr_law) := by
  refine fnDG T.law.F sc_law len_law (fun cdv Ar outer s H E hg hr => ⟨_, (pss_cons (ps_set (i := 1) sc_law.nd rfl (by first | exact Or.inl rfl | exact Or.inr rfl) (pe_call G_law_draws (hr.mono (by decide)) rfl T._law_draws.g T._law_draws.F.kp T._law_draws.b .nil pass0 (pa_cons (pv 0) pa_nil)))
    (pss_cons (ps_for PassesOwn.never rfl (show PI _ _ _ (iList K _) from pi_list (pe_lst (pa_cons pe_int (pa_cons pe_int (pa_cons pe_int pa_nil))))) (pg_name (i := 2) sc_law.nd rfl (by first | exact Or.inl rfl | exact Or.inr rfl))
    (pss_cons (ps_asg (pe_call G_law_grouped (hr.mono (by decide)) rfl T._law_grouped.g T._law_grouped.F.kp T._law_grouped.b .nil pass0 (pa_cons (pv 1) (pa_cons (pe_call G_law_web (hr.mono (by decide)) rfl T._law_web.g T._law_web.F.kp T._law_web.b .nil pass0 (pa_cons (pv 1) (pa_cons pe_int (pa_cons (pv 2) pa_nil)))) pa_nil))) (show PG _ _ (gTup K 2 _) from pg_tup (n := 2) rfl (pgs_cons (pg_name (i := 3) sc_law.nd rfl (by first | exact Or.inl rfl | exact Or.inr rfl)) (pgs_cons (pg_name (i := 4) sc_law.nd rfl (by first | exact Or.inl rfl | exact Or.inr rfl)) pgs_nil))))
     (pss_cons (ps_set (i := 5) sc_law.nd rfl (by first | exact Or.inl rfl | exact Or.inr rfl) (pe_ix (show IxR _ (rIxT K) from ix_tup) (pe_ix (show IxR _ (rIxT K) from ix_tup) (pe_call Gtogether_table (hr.mono (by decide)) rfl T.together_table.g T.together_table.F.kp T.together_table.b .nil pass0 (pa_cons (pv 3) (pa_cons (pv 4) pa_nil))) pe_int (fun _ _ => rfl)) pe_int (fun _ _ => rfl)))
     (pss_cons (ps_if (pt_not (pt_val (pe_callG (G_law_same) hg (hr.mono (by decide)) rfl T._law_same.g T._law_same.F.kp T._law_same.b (pa_cons (pv 5) (pa_cons (pe_call G_law_tried (hr.mono (by decide)) rfl T._law_tried.g T._law_tried.F.kp T._law_tried.b .nil pass0 (pa_cons (pv 3) (pa_cons (pv 4) pa_nil))) pa_nil))))) (pss_one (ps_ret pe_bl)) pss_nil)
     (pss_cons (ps_for PassesOwn.never rfl (pi_range1 rfl T.range (pa_cons pe_int pa_nil)) (pg_name (i := 6) sc_law.nd rfl (by first | exact Or.inl rfl | exact Or.inr rfl))
     (pss_one (ps_if (pt_val (pe_call G_law_less (hr.mono (by decide)) rfl T._law_less.g T._law_less.F.kp T._law_less.b .nil pass0 (pa_cons (pv 5) (pa_cons (pe_call G_law_together (hr.mono (by decide)) rfl T._law_together.g T._law_together.F.kp T._law_together.b .nil pass0 (pa_cons (pv 3) (pa_cons (pv 4) (pa_cons (pe_call G_law_grown (hr.mono (by decide)) rfl T._law_grown.g T._law_grown.F.kp T._law_grown.b .nil pass0 (pa_cons (pv 1) (pa_cons (pv 3) (pa_cons pe_int pa_nil)))) pa_nil)))) pa_nil)))) (pss_one (ps_ret pe_bl)) pss_nil)))
     (pss_cons (ps_set (i := 7) sc_law.nd rfl (by first | exact Or.inl rfl | exact Or.inr rfl) (pe_callTy (show CallR _ _ (rTupOf K) from call_tuple_of) (by rfl) T.tuple PyProof.Rows.boot_tuple (pa_cons (pe_lc (own := [("_law_tie", 8)]) rfl sc_law.nd (pi_range1 rfl T.range (pa_cons (pe_callB (show CallR _ _ (rLen K) from call_len_seq) (by rfl) T.len PySem.boot_len (pa_cons (pe_ix (show IxR _ (rIxT K) from ix_tup) (pv 3) pe_int (fun _ _ => rfl)) pa_nil)) pa_nil)) (blkOk_by (N := N_law) (sc := defScope s_law) (by decide +kernel)) (fun _ _ _ _ _ =>  (pg_name (i := 8) sc_law.nd rfl (by first | exact Or.inl rfl | exact Or.inr rfl))) (fun _ _ _ _ _ =>  pts_nil) (fun _ _ _ _ _ =>  (pe_tup (pa_cons (pv 8) pa_nil)))) pa_nil)))
     (pss_cons (ps_set (i := 5) sc_law.nd rfl (by first | exact Or.inl rfl | exact Or.inr rfl) (pe_ix (show IxR _ (rIxT K) from ix_tup) (pe_ix (show IxR _ (rIxT K) from ix_tup) (pe_call Gtogether_table (hr.mono (by decide)) rfl T.together_table.g T.together_table.F.kp T.together_table.b .nil pass0 (pa_cons (pv 3) (pa_cons (pv 7) pa_nil))) pe_int (fun _ _ => rfl)) pe_int (fun _ _ => rfl)))
     (pss_one (ps_if (PW.pt (pw_or (pt_not (pt_val (pe_callG (G_law_same) hg (hr.mono (by decide)) rfl T._law_same.g T._law_same.F.kp T._law_same.b (pa_cons (pv 5) (pa_cons (pe_call Gbest_worth (hr.mono (by decide)) rfl T.best_worth.g T.best_worth.F.kp T.best_worth.b .nil pass0 (pa_cons (pv 3) pa_nil)) pa_nil))))) (pw_or1 (pt_not (pt_val (pe_callG (G_law_same) hg (hr.mono (by decide)) rfl T._law_same.g T._law_same.F.kp T._law_same.b (pa_cons (pv 5) (pa_cons (pe_call G_law_best (hr.mono (by decide)) rfl T._law_best.g T._law_best.F.kp T._law_best.b .nil pass0 (pa_cons (pv 3) (pa_cons (pe_tup (pa_cons (pe_tup pa_nil) (pa_cons (pe_tup pa_nil) pa_nil))) (pa_cons (show PE _ _ (tNNew P w) from pe_nnew) pa_nil)))) pa_nil)))))))) (pss_one (ps_ret pe_bl)) pss_nil)))))))))
    (pss_one (ps_ret pe_bl)))), fun as m W h => ?_⟩)
  try dsimp only [cxOf, Cx.nox, Cx.wish]
  obtain ⟨ns, rfl, rfl, hn, _, k⟩ := h
  walk_at "dl"
  intro d l hD
  walk_at "dl"
  refine wx_lst (wa_cons ?_)
  walk_at "dl"
  refine ⟨len_le rfl, fun p => ?_⟩
  refine ⟨Nat, 0, [3, 4, 5], fun n => .d (dN n), p, 1, true, rfl, rfl, fun i S' => ∃ (l : List Nat) (o2 o3 o4 o5 o6 o7 : Option Arg), Dr l ∧ S' = ⟨[some (.s ns), some (.a d), o2, o3, o4, o5, o6, o7, none], [(d, dr l, true), (p, .lst (([3, 4, 5] : List Nat).map fun n => .d (dN n)), true)]⟩, ⟨l, none, none, none, none, none, none, hD, rfl⟩, ?_, ?_, ?_⟩
  · rintro i S' ⟨l, o2, o3, o4, o5, o6, o7, hD, rfl⟩
    rfl
  · rintro i a S' ha ⟨l, o2, o3, o4, o5, o6, o7, hD, rfl⟩
    have ha5 : a ≤ 5 := by
      have := List.mem_of_getElem? ha
      simp at this
      omega
    -- a web, its groups
    refine ws_cut (fun S1 => ∃ (l : List Nat) (W : Web) (G : Groups), Dr l ∧ WebOk W ∧ GroupsOk W G ∧ S1 = ⟨[some (.s ns), some (.a d), some (.d (dN a)), some (.d (dW W)), some (.d (dG G)), o5, o6, o7, none], [(d, dr l, true), (p, .lst (([3, 4, 5] : List Nat).map fun n => .d (dN n)), true)]⟩) ?_ ?_
    · walk_at "dl"
      refine wx_call1 ?_
      walk_at "dl"
      refine wx_call1 ?_
      walk_at "dl"
      refine ⟨0, _, _, rfl, use__law_web (most := 8) hD (by decide) ha5 fun W l1 hW hD1 => ?_⟩
      walk_at "dl"
      refine ⟨0, _, _, rfl, use__law_grouped hD1 hW fun W2 G l2 hW2 hG2 hD2 => ?_⟩
      walk_at "dl"
      exact ⟨l2, W2, G, hD2, hW2, hG2, rfl⟩
    rintro S1 ⟨l, W', G, hD, hW, hG, rfl⟩
    have hGr := GrOk.of hW hG
    have h5 := web5 hW
    have hpot := Km.pot_web hW
    -- the table's first worth
    refine ws_cut (fun S1 => S1 = ⟨[some (.s ns), some (.a d), some (.d (dN a)), some (.d (dW W')), some (.d (dG G)), some (.d (dF (Km.vW W' G ([], [], [])))), o6, o7, none], [(d, dr l, true), (p, .lst (([3, 4, 5] : List Nat).map fun n => .d (dN n)), true)]⟩) ?_ ?_
    · walk_at "dl"
      intro z rest
      walk_at "dl"
      refine wr_ixT (atI_nat (j := 0) rfl) ?_
      walk_at "dl"
      rfl
    rintro S1 rfl
    have hfine := Km.vW_fine (G := G) hW ([], [], [])
    -- the same as tried
    refine ws_cut (fun S1 => S1 = ⟨[some (.s ns), some (.a d), some (.d (dN a)), some (.d (dW W')), some (.d (dG G)), some (.d (dF (Km.vW W' G ([], [], [])))), o6, o7, none], [(d, dr l, true), (p, .lst (([3, 4, 5] : List Nat).map fun n => .d (dN n)), true)]⟩) ?_ ?_
    · walk_at "dl"
      refine ⟨(fun h => nomatch h), fun _ => ?_⟩
      walk_at "dl"
      rfl
    rintro S1 rfl
    -- three trees
    refine ws_cut (fun S1 => ∃ (l : List Nat) (o6 : Option Arg), Dr l ∧ S1 = ⟨[some (.s ns), some (.a d), some (.d (dN a)), some (.d (dW W')), some (.d (dG G)), some (.d (dF (Km.vW W' G ([], [], [])))), o6, o7, none], [(d, dr l, true), (p, .lst (([3, 4, 5] : List Nat).map fun n => .d (dN n)), true)]⟩) ?_ ?_
    · walk_at "dl"
      refine ⟨by decide, fun j S1 => ∃ (l : List Nat) (o6 : Option Arg), Dr l ∧ S1 = ⟨[some (.s ns), some (.a d), some (.d (dN a)), some (.d (dW W')), some (.d (dG G)), some (.d (dF (Km.vW W' G ([], [], [])))), o6, o7, none], [(d, dr l, true), (p, .lst (([3, 4, 5] : List Nat).map fun n => .d (dN n)), true)]⟩, ⟨l, o6, hD, rfl⟩, ?_, ?_⟩
      · rintro j S' hj ⟨l, o6, hD, rfl⟩
        walk_at "dl"
        refine wx_call1 ?_
        walk_at "dl"
        refine ⟨0, _, _, rfl, use__law_grown hD hW fun nodes sts l1 hT hl hD1 => ?_⟩
        walk_at "dl"
        refine use__law_together hW hG hT (by omega) fun z hz hle => ?_
        walk_at "dl"
        · exact Ok.fine hfine
        refine ⟨fun hc => ?_, fun _ => ?_⟩
        · have hc' : Km.less (Km.vW W' G ([], [], [])) z = true := hc
          rw [not_less (Ok.fine hfine) hz hle] at hc'
          cases hc'
        walk_at "dl"
        exact ⟨_, Le.refl _, l1, _, hD1, rfl⟩
      · rintro S' ⟨l, o6, hD, rfl⟩
        exact ⟨l, o6, hD, rfl⟩
    rintro S1 ⟨l, o6, hD, rfl⟩
    -- every tie its own group
    refine ws_cut (fun S1 => S1 = ⟨[some (.s ns), some (.a d), some (.d (dN a)), some (.d (dW W')), some (.d (dG G)), some (.d (dF (Km.vW W' G ([], [], [])))), o6, some (.d (dG (Km.alone W'.n))), none], [(d, dr l, true), (p, .lst (([3, 4, 5] : List Nat).map fun n => .d (dN n)), true)]⟩) ?_ ?_
    · walk_at "dl"
      refine ⟨by decide, show W'.n ≤ 1000000 by omega, fun _ => true, fun t => .d (dNs [t]), fun t ob ht => ?_, fun q => ?_⟩
      · walk_at "dl"
        refine ⟨fun _ => ?_, fun h => nomatch h⟩
        walk_at "dl"
        exact List.prefix_refl _
      · rw [alone_list]
        walk_at "dl"
        rfl
    rintro S1 rfl
    have hAl := alone_ok W' hW
    refine ws_cut (fun S1 => S1 = ⟨[some (.s ns), some (.a d), some (.d (dN a)), some (.d (dW W')), some (.d (dG G)), some (.d (dF (Km.vS W' ([], [])))), o6, some (.d (dG (Km.alone W'.n))), none], [(d, dr l, true), (p, .lst (([3, 4, 5] : List Nat).map fun n => .d (dN n)), true)]⟩) ?_ ?_
    · walk_at "dl"
      intro z rest
      walk_at "dl"
      refine wr_ixT (atI_nat (j := 0) rfl) ?_
      rw [alone_best]
      walk_at "dl"
      rfl
    rintro S1 rfl
    have hfineS := Km.vS_fine hW ([], [])
    walk_at "dl"
    refine ⟨(fun h => nomatch h), fun _ => ?_⟩
    walk_at "dl"
    refine wx_call1 ?_
    walk_at "dl"
    refine wx_nnew fun dd => ?_
    walk_at "dl"
    refine ⟨2, _, _, rfl, use__law_best (M := []) (s := ([], [])) hW (Km.SP.first W') (by show 0 + Km.pot (W'.n * 2) (W'.n - 0) ≤ 500000; rw [Nat.sub_zero]; omega) (by show W'.n - 0 < 6; omega) fun M' hM' => ?_⟩
    walk_at "dl"
    refine ⟨(fun h => nomatch h), fun _ => ?_⟩
    walk_at "dl"
    exact ⟨⟨_, _⟩, le_last (m := [_, _]), l, _, _, _, _, _, _, hD, rfl⟩
  · rintro S' ⟨l, o2, o3, o4, o5, o6, o7, hD, rfl⟩
    walk_at "dl"
    exact ⟨_, k, List.nil_sublist _⟩
end
end Dl

/-! all of it together -/
namespace Dl
open PySem PySem.Spec L2
section
variable {P : Program} {w : World} {K : PySem.W.Frag} {mg : Str → Option Value} {base : Heap}
theorem all_law (T : Txt K mg) : FnG P w K mg base 21 T.law.f T.law.fd ["_law_script"] (spD P w K (lawP 63)) := by
  have G_law_asks_of : FnOk P w K mg base CX0 1 T._law_asks_of.f T._law_asks_of.fd ["_law_web_here", "_law_asked", "_law_thing"] (spD P w K pr__law_asks_of) := ok__law_asks_of T 
  have G_law_may : FnOk P w K mg base CX0 2 T._law_may.f T._law_may.fd ["_law_web_here", "_law_stand", "_law_tie"] (spD P w K pr__law_may) := ok__law_may T G_law_asks_of
  have G_law_askable : FnOk P w K mg base CX0 3 T._law_askable.f T._law_askable.fd ["_law_web_here", "_law_stand"] (spD P w K pr__law_askable) := ok__law_askable T G_law_may
  have G_law_behind : FnOk P w K mg base CX0 1 T._law_behind.f T._law_behind.fd ["_law_web_here", "_law_stand", "_law_tie", "_law_truth"] (spD P w K pr__law_behind) := ok__law_behind T 
  have G_law_less : FnOk P w K mg base CX0 1 T._law_less.f T._law_less.fd ["_law_one", "_law_other"] (spD P w K pr__law_less) := ok__law_less T 
  have G_law_gcd : FnOk P w K mg base CX0 1 T._law_gcd.f T._law_gcd.fd ["_law_one", "_law_other"] (spD P w K pr__law_gcd) := ok__law_gcd T 
  have G_law_low : FnOk P w K mg base CX0 2 T._law_low.f T._law_low.fd ["_law_top", "_law_bottom"] (spD P w K pr__law_low) := ok__law_low T G_law_gcd
  have G_law_plus : FnOk P w K mg base CX0 3 T._law_plus.f T._law_plus.fd ["_law_one", "_law_other"] (spD P w K pr__law_plus) := ok__law_plus T G_law_low
  have G_law_rest : FnOk P w K mg base CX0 1 T._law_rest.f T._law_rest.fd ["_law_one"] (spD P w K pr__law_rest) := ok__law_rest T 
  have G_law_times : FnOk P w K mg base CX0 3 T._law_times.f T._law_times.fd ["_law_one", "_law_other"] (spD P w K pr__law_times) := ok__law_times T G_law_low
  have B0 : FnOk P w K mg base CX0 14 T._law_best.f T._law_best.fd ["_law_web_here", "_law_stand", "_law_known"] (spD P w K (pr__law_best 0)) := fn_none fun as m W h => h
  have B1 : FnOk P w K mg base CX0 15 T._law_best.f T._law_best.fd ["_law_web_here", "_law_stand", "_law_known"] (spD P w K (pr__law_best 1)) := ok__law_best T G_law_askable G_law_behind G_law_less G_law_plus G_law_rest G_law_times (by decide) B0
  have B2 : FnOk P w K mg base CX0 16 T._law_best.f T._law_best.fd ["_law_web_here", "_law_stand", "_law_known"] (spD P w K (pr__law_best 2)) := ok__law_best T G_law_askable G_law_behind G_law_less G_law_plus G_law_rest G_law_times (by decide) B1
  have B3 : FnOk P w K mg base CX0 17 T._law_best.f T._law_best.fd ["_law_web_here", "_law_stand", "_law_known"] (spD P w K (pr__law_best 3)) := ok__law_best T G_law_askable G_law_behind G_law_less G_law_plus G_law_rest G_law_times (by decide) B2
  have B4 : FnOk P w K mg base CX0 18 T._law_best.f T._law_best.fd ["_law_web_here", "_law_stand", "_law_known"] (spD P w K (pr__law_best 4)) := ok__law_best T G_law_askable G_law_behind G_law_less G_law_plus G_law_rest G_law_times (by decide) B3
  have B5 : FnOk P w K mg base CX0 19 T._law_best.f T._law_best.fd ["_law_web_here", "_law_stand", "_law_known"] (spD P w K (pr__law_best 5)) := ok__law_best T G_law_askable G_law_behind G_law_less G_law_plus G_law_rest G_law_times (by decide) B4
  have B6 : FnOk P w K mg base CX0 20 T._law_best.f T._law_best.fd ["_law_web_here", "_law_stand", "_law_known"] (spD P w K (pr__law_best 6)) := ok__law_best T G_law_askable G_law_behind G_law_less G_law_plus G_law_rest G_law_times (by decide) B5
  have G_law_best := B6
  have G_law_mixed : FnOk P w K mg base CX0 1 T._law_mixed.f T._law_mixed.fd ["_law_cell", "_law_k"] (spD P w K pr__law_mixed) := ok__law_mixed T 
  have G_law_draws : FnOk P w K mg base CX0 2 T._law_draws.f T._law_draws.fd ["_law_script"] (spD P w K pr__law_draws) := ok__law_draws T G_law_mixed
  have G_law_chance : FnOk P w K mg base CX0 3 T._law_chance.f T._law_chance.fd ["_law_number", "_law_kind"] (spD P w K pr__law_chance) := ok__law_chance T G_law_low
  have G_law_next : FnOk P w K mg base CX0 1 T._law_next.f T._law_next.fd ["_law_drawn"] (spD P w K pr__law_next) := ok__law_next T 
  have G_law_grouped : FnOk P w K mg base CX0 4 T._law_grouped.f T._law_grouped.fd ["_law_drawn", "_law_web_here"] (spD P w K pr__law_grouped) := ok__law_grouped T G_law_chance G_law_next
  have G_law_grown : FnOk P w K mg base CX0 4 T._law_grown.f T._law_grown.fd ["_law_drawn", "_law_web_here", "_law_most"] (spD P w K pr__law_grown) := ok__law_grown T G_law_askable G_law_behind G_law_next
  have G_law_same : FnG P w K mg base 1 T._law_same.f T._law_same.fd ["_law_found", "_law_due"] (spD P w K pr__law_same) := ok__law_same T 
  have G_law_all_answers : FnOk P w K mg base CX0 1 T._law_all_answers.f T._law_all_answers.fd ["_law_many"] (spD P w K pr__law_all_answers) := ok__law_all_answers T 
  have G_law_kept : FnOk P w K mg base CX0 1 T._law_kept.f T._law_kept.fd ["_law_web_here", "_law_run"] (spD P w K pr__law_kept) := ok__law_kept T 
  have G_law_run_tree : FnOk P w K mg base CX0 1 T._law_run_tree.f T._law_run_tree.fd ["_law_tree", "_law_answers"] (spD P w K pr__law_run_tree) := ok__law_run_tree T 
  have G_law_group_of : FnOk P w K mg base CX0 1 T._law_group_of.f T._law_group_of.fd ["_law_groups", "_law_tie"] (spD P w K pr__law_group_of) := ok__law_group_of T 
  have G_law_tie_answers : FnOk P w K mg base CX0 2 T._law_tie_answers.f T._law_tie_answers.fd ["_law_web_here", "_law_groups", "_law_answers"] (spD P w K pr__law_tie_answers) := ok__law_tie_answers T G_law_group_of
  have G_law_together : FnOk P w K mg base CX0 4 T._law_together.f T._law_together.fd ["_law_web_here", "_law_groups", "_law_tree"] (spD P w K pr__law_together) := ok__law_together T G_law_all_answers G_law_kept G_law_plus G_law_rest G_law_run_tree G_law_tie_answers G_law_times
  have G_law_wide_behind : FnOk P w K mg base CX0 2 T._law_wide_behind.f T._law_wide_behind.fd ["_law_web_here", "_law_groups", "_law_wide", "_law_tie", "_law_truth"] (spD P w K pr__law_wide_behind) := ok__law_wide_behind T G_law_behind G_law_group_of
  have G_law_wide_truths : FnOk P w K mg base CX0 2 T._law_wide_truths.f T._law_wide_truths.fd ["_law_groups", "_law_wide", "_law_tie"] (spD P w K pr__law_wide_truths) := ok__law_wide_truths T G_law_group_of
  have G_law_wide_stands : FnOk P w K mg base CX0 4 T._law_wide_stands.f T._law_wide_stands.fd ["_law_web_here", "_law_groups"] (spD P w K pr__law_wide_stands) := ok__law_wide_stands T G_law_askable G_law_wide_behind G_law_wide_truths
  have G_law_wide_worth : FnOk P w K mg base CX0 4 T._law_wide_worth.f T._law_wide_worth.fd ["_law_web_here", "_law_groups", "_law_worths", "_law_wide", "_law_tie"] (spD P w K pr__law_wide_worth) := ok__law_wide_worth T G_law_plus G_law_rest G_law_times G_law_wide_behind G_law_wide_truths
  have G_law_tried : FnOk P w K mg base CX0 5 T._law_tried.f T._law_tried.fd ["_law_web_here", "_law_groups"] (spD P w K pr__law_tried) := ok__law_tried T G_law_askable G_law_less G_law_wide_stands G_law_wide_worth
  have G_law_worth : FnOk P w K mg base CX0 1 T._law_worth.f T._law_worth.fd ["_law_number", "_law_kind"] (spD P w K pr__law_worth) := ok__law_worth T 
  have G_law_ties : FnOk P w K mg base CX0 4 T._law_ties.f T._law_ties.fd ["_law_drawn", "_law_things", "_law_many"] (spD P w K pr__law_ties) := ok__law_ties T G_law_chance G_law_next G_law_worth
  have G_law_web : FnOk P w K mg base CX0 5 T._law_web.f T._law_web.fd ["_law_drawn", "_law_most", "_law_ties_here"] (spD P w K pr__law_web) := ok__law_web T G_law_next G_law_ties
  have Gends_of : FnOk P w K mg base CX0 1 T.ends_of.f T.ends_of.fd ["web", "tie"] (spD P w K pr_ends_of) := ok_ends_of T 
  have Gtimes_asked : FnOk P w K mg base CX0 2 T.times_asked.f T.times_asked.fd ["web", "asked", "thing"] (spD P w K pr_times_asked) := ok_times_asked T Gends_of
  have Gmay_ask : FnOk P w K mg base CX0 3 T.may_ask.f T.may_ask.fd ["web", "stand", "tie"] (spD P w K pr_may_ask) := ok_may_ask T Gends_of Gtimes_asked
  have Gaskable : FnOk P w K mg base CX0 4 T.askable.f T.askable.fd ["web", "stand"] (spD P w K pr_askable) := ok_askable T Gmay_ask
  have Gstand_behind : FnOk P w K mg base CX0 2 T.stand_behind.f T.stand_behind.fd ["web", "stand", "tie", "truth"] (spD P w K pr_stand_behind) := ok_stand_behind T Gends_of
  have Gstands_behind : FnOk P w K mg base CX0 5 T.stands_behind.f T.stands_behind.fd ["web", "stand"] (spD P w K pr_stands_behind) := ok_stands_behind T Gaskable Gstand_behind
  have Gall_stands : FnOk P w K mg base CX0 6 T.all_stands.f T.all_stands.fd ["web"] (spD P w K pr_all_stands) := ok_all_stands T Gstands_behind
  have Gdivisor_of : FnOk P w K mg base CX0 1 T.divisor_of.f T.divisor_of.fd ["one", "other"] (spD P w K pr_divisor_of) := ok_divisor_of T 
  have Glowest : FnOk P w K mg base CX0 2 T.lowest.f T.lowest.fd ["top", "bottom"] (spD P w K pr_lowest) := ok_lowest T Gdivisor_of
  have Gplus : FnOk P w K mg base CX0 3 T.plus.f T.plus.fd ["one", "other"] (spD P w K pr_plus) := ok_plus T Glowest
  have Grest : FnOk P w K mg base CX0 1 T.rest.f T.rest.fd ["one"] (spD P w K pr_rest) := ok_rest T 
  have Gtimes : FnOk P w K mg base CX0 3 T.times.f T.times.fd ["one", "other"] (spD P w K pr_times) := ok_times T Glowest
  have Gaverage : FnOk P w K mg base CX0 4 T.average.f T.average.fd ["chance", "worth", "yes", "no"] (spD P w K pr_average) := ok_average T Gplus Grest Gtimes
  have Gchance_in : FnOk P w K mg base CX0 1 T.chance_in.f T.chance_in.fd ["web", "tie"] (spD P w K pr_chance_in) := ok_chance_in T 
  have Gworth_in : FnOk P w K mg base CX0 1 T.worth_in.f T.worth_in.fd ["web", "tie"] (spD P w K pr_worth_in) := ok_worth_in T 
  have Gask_worth : FnOk P w K mg base CX0 5 T.ask_worth.f T.ask_worth.fd ["web", "worths", "stand", "tie"] (spD P w K pr_ask_worth) := ok_ask_worth T Gaverage Gchance_in Gstand_behind Gworth_in
  have Gless : FnOk P w K mg base CX0 1 T.less.f T.less.fd ["one", "other"] (spD P w K pr_less) := ok_less T 
  have Gbest_ask : FnOk P w K mg base CX0 6 T.best_ask.f T.best_ask.fd ["web", "worths", "stand"] (spD P w K pr_best_ask) := ok_best_ask T Gask_worth Gaskable Gless
  have Gtable_of : FnOk P w K mg base CX0 7 T.table_of.f T.table_of.fd ["web"] (spD P w K pr_table_of) := ok_table_of T Gall_stands Gbest_ask
  have Gbest_worth : FnOk P w K mg base CX0 8 T.best_worth.f T.best_worth.fd ["web"] (spD P w K pr_best_worth) := ok_best_worth T Gtable_of
  have Ggroup_of : FnOk P w K mg base CX0 1 T.group_of.f T.group_of.fd ["groups", "tie"] (spD P w K pr_group_of) := ok_group_of T 
  have Gtruths_of : FnOk P w K mg base CX0 2 T.truths_of.f T.truths_of.fd ["groups", "wide", "tie"] (spD P w K pr_truths_of) := ok_truths_of T Ggroup_of
  have Gwide_behind : FnOk P w K mg base CX0 3 T.wide_behind.f T.wide_behind.fd ["web", "groups", "wide", "tie", "truth"] (spD P w K pr_wide_behind) := ok_wide_behind T Ggroup_of Gstand_behind
  have Gall_wide : FnOk P w K mg base CX0 5 T.all_wide.f T.all_wide.fd ["web", "groups"] (spD P w K pr_all_wide) := ok_all_wide T Gaskable Gtruths_of Gwide_behind
  have Gwide_ask_worth : FnOk P w K mg base CX0 5 T.wide_ask_worth.f T.wide_ask_worth.fd ["web", "groups", "worths", "wide", "tie"] (spD P w K pr_wide_ask_worth) := ok_wide_ask_worth T Gaverage Gchance_in Gplus Gtruths_of Gwide_behind Gworth_in
  have Gtogether_table : FnOk P w K mg base CX0 6 T.together_table.f T.together_table.fd ["web", "groups"] (spD P w K pr_together_table) := ok_together_table T Gall_wide Gaskable Gless Gwide_ask_worth
  exact ok_law T G_law_best G_law_draws G_law_grouped G_law_grown G_law_less G_law_same G_law_together G_law_tried G_law_web Gbest_worth Gtogether_table
end
end Dl

/-! what the top has left, told by names; the law's end over it -/
namespace Dl
open PySem PySem.Spec L2 PyProof.Rows
/-! ### a def of no default -/
theorem fun_plain {K : PySem.W.Frag} {x qual : Str} {st : Stmt} {f : Addr} {fd : FuncData} (F : FunD K x qual (defArgs st) (defBody st) (defScope st) [] [] f fd) : Fun K x qual st f fd := by
  obtain ⟨⟨oc, od, dV, kV, doc, pm, an, cdv, ct, osl, e, lk, hcd, hD, _⟩, kp⟩ := F
  rcases hD with ⟨_, rfl⟩ | ⟨ne, _⟩
  · exact ⟨⟨oc, od, kV, doc, pm, an, cdv, ct, osl, e, lk, hcd⟩, kp⟩
  · exact absurd rfl ne
/-! ### a constant of the top as data -/
def allB (f : Value → D → Bool) : List Value → List D → Bool
  | [], [] => true
  | u :: us, d :: ds => f u d && allB f us ds
  | _, _ => false
def imB : Nat → PySem.W.Frag → Value → D → Bool
  | 0, _, _, _ => false
  | n + 1, K, u, d => match u, d with
    | .none, .non => true
    | .bool b, .bl c => b == c
    | .int i _, .int j => decide (i = j)
    | .ref a, .tup ds => (match K.lookup a with
      | some ⟨.type c, _, .seq its _, _⟩ => decide (c = "tuple") && (decide (its.size ≤ sizeLine) && allB (imB n K) its.toList ds)
      | _ => false)
    | _, _ => false
theorem allB_ok {K : PySem.W.Frag} {f : Value → D → Bool} {H : Hp} (h : ∀ u d, f u d = true → ∃ v, RelV v u ∧ Im K H v d) : ∀ {us : List Value} {ds : List D}, allB f us ds = true → ∃ vs, Vals vs us ∧ ImAll K H vs ds
  | [], [], _ => ⟨[], .nil, .nil⟩
  | u :: us, d :: ds, e => by
    obtain ⟨e1, e2⟩ := He.ba (show (f u d && allB f us ds) = true from e)
    obtain ⟨v, r, i⟩ := h u d e1
    obtain ⟨vs, rs, is⟩ := allB_ok h e2
    exact ⟨v :: vs, .cons r rs, .cons i is⟩
  | [], _ :: _, e => by cases e
  | _ :: _, [], e => by cases e
theorem imB_ok {K : PySem.W.Frag} {H : Hp} : ∀ (n : Nat) (u : Value) (d : D), imB n K u d = true → ∃ v, RelV v u ∧ Im K H v d
  | 0, _, _, e => by cases e
  | n + 1, u, d, e => by
    cases u with
    | none =>
      cases d with
      | non => exact ⟨.non, rfl, .non⟩
      | _ => cases e
    | bool b =>
      cases d with
      | bl c =>
        have e1 : b = c := eq_of_beq (show (b == c) = true from e)
        exact ⟨.bl b, rfl, e1 ▸ .bl b⟩
      | _ => cases e
    | int i t =>
      cases d with
      | int j =>
        have e1 : i = j := of_decide_eq_true (show decide (i = j) = true from e)
        exact ⟨.int i, ⟨t, rfl⟩, e1 ▸ .int i⟩
      | _ => cases e
    | ref a =>
      cases d with
      | tup ds =>
        have e1 : (match K.lookup a with
          | some ⟨.type c, _, .seq its _, _⟩ => decide (c = "tuple") && (decide (its.size ≤ sizeLine) && allB (imB n K) its.toList ds)
          | _ => false) = true := e
        cases q : K.lookup a with
        | none =>
          rw [q] at e1
          cases e1
        | some ob =>
          obtain ⟨oc, od, dt, osl⟩ := ob
          rw [q] at e1
          cases oc with
          | type c =>
            cases dt with
            | seq its m =>
              obtain ⟨h1, h2⟩ := He.ba (show (decide (c = "tuple") && (decide (its.size ≤ sizeLine) && allB (imB n K) its.toList ds)) = true from e1)
              obtain ⟨h3, h4⟩ := He.ba h2
              obtain ⟨vs, rs, is⟩ := allB_ok (H := H) (fun u d z => imB_ok n u d z) h4
              exact ⟨.ref a, rfl, .tup (.inr ⟨_, its, m, q, congrArg Value.type (of_decide_eq_true h1), rfl, of_decide_eq_true h3, rs⟩) is⟩
            | _ => cases e1
          | _ => cases dt <;> cases e1
      | _ => cases e
    | _ => cases d <;> cases e
theorem im_top {K : PySem.W.Frag} {a : Addr} {d : D} {n : Nat} (e : imB n K (.ref a) d = true) (H : Hp) : Im K H (.ref a) d := by
  obtain ⟨v, r, i⟩ := imB_ok (H := H) n _ _ e
  cases v with
  | ref b =>
    have e1 : Value.ref a = .ref b := r
    cases e1
    exact i
  | _ => first | (obtain ⟨_, r⟩ := r; cases r; done) | (cases r; done)
/-! ### facts by names and one more Bool -/
abbrev AlM : Type := He.AlD × Bool
def obsM (n : Nat) (fa : List He.Fa) (fn : List He.DefD) (ex : PySem.W.Frag → Bool) (g : Addr → Option Obj) : AlM := (He.obsD fa fn (He.frG g (He.asD g n)), ex (He.frG g (He.asD g n)))
def SaysM (fa : List He.Fa) (fn : List He.DefD) (ex : PySem.W.Frag → Bool) (K : PySem.W.Frag) : Prop := He.SaysD fa fn K ∧ ex K = true
def hookM (n : Nat) (fa : List He.Fa) (fn : List He.DefD) (ex : PySem.W.Frag → Bool) : PySem.W.Hook where
  α := AlM
  obs := fun s => obsM n fa fn ex s.heap.get?
  val := fun _ => (He.valD fn, true)
  says := fun _ h => ∃ K : PySem.W.Frag, K.In h ∧ SaysM fa fn ex K
  of := fun _ _ e => ⟨_, He.frG_in, congrArg (fun z : AlM => z.1) e, congrArg (fun z : AlM => z.2) e⟩
  keeps := fun _ _ _ ⟨K, hK, c⟩ k => ⟨K, PySem.W.Frag.In.keeps hK k, c⟩
theorem obsM_eq {n : Nat} {fa : List He.Fa} {fn : List He.DefD} {ex : PySem.W.Frag → Bool} {g : Addr → Option Obj} {s : Shared} (h : ∀ a, g a = s.heap.get? a) : obsM n fa fn ex g = (hookM n fa fn ex).obs s := by
  have e : g = s.heap.get? := funext h
  rw [e] <;> rfl
/-! ### the facts -/
def plainD (x : Str) (st : Stmt) : He.DefD := ⟨(x, none), x, x, defArgs st, defBody st, defScope st, [], []⟩
def bltA : List He.Fa := [.free "abs", .free "all", .free "enumerate", .free "int", .free "len", .free "max", .free "min", .free "range", .free "repr", .free "reversed", .free "sorted", .free "sum", .free "tuple", .free "zip"]
def cstA : List He.Fa := [.glo "NOTHING", .glo "FIRST", .glo "FIRST_WIDE", .int "MOST_TIES_together" 6, .int "MOST_TIES_tables" 7]
def gloA : List He.Fa := [.glo "divisor_of", .glo "lowest", .glo "plus", .glo "times", .glo "less", .glo "rest", .glo "average", .glo "ends_of", .glo "chance_in", .glo "worth_in", .glo "times_asked", .glo "may_ask", .glo "askable", .glo "stand_behind", .glo "group_of", .glo "truths_of", .glo "wide_behind", .glo "wide_ask_worth", .glo "all_wide", .glo "together_table", .glo "ask_worth", .glo "stands_behind", .glo "all_stands", .glo "best_ask", .glo "table_of", .glo "best_worth", .glo "_law_mixed", .glo "_law_draws", .glo "_law_next"]
def gloB : List He.Fa := [.glo "_law_gcd", .glo "_law_low", .glo "_law_plus", .glo "_law_times", .glo "_law_rest", .glo "_law_less", .glo "_law_same", .glo "_law_chance", .glo "_law_worth", .glo "_law_ties", .glo "_law_web", .glo "_law_asks_of", .glo "_law_may", .glo "_law_behind", .glo "_law_askable", .glo "_law_grown", .glo "_law_all_answers", .glo "_law_run_tree", .glo "_law_kept", .glo "_law_best", .glo "_law_grouped", .glo "_law_group_of", .glo "_law_tie_answers", .glo "_law_together", .glo "_law_wide_truths", .glo "_law_wide_behind", .glo "_law_wide_worth", .glo "_law_wide_stands", .glo "_law_tried", .glo "law"]
def fa : List He.Fa := bltA ++ (cstA ++ (gloA ++ gloB))
def fnA : List He.DefD := [plainD "divisor_of" s_divisor_of, plainD "lowest" s_lowest, plainD "plus" s_plus, plainD "times" s_times, plainD "less" s_less, plainD "rest" s_rest, plainD "average" s_average, plainD "ends_of" s_ends_of, plainD "chance_in" s_chance_in, plainD "worth_in" s_worth_in, plainD "times_asked" s_times_asked, plainD "may_ask" s_may_ask, plainD "askable" s_askable, plainD "stand_behind" s_stand_behind, plainD "group_of" s_group_of, plainD "truths_of" s_truths_of, plainD "wide_behind" s_wide_behind, plainD "wide_ask_worth" s_wide_ask_worth, plainD "all_wide" s_all_wide, plainD "together_table" s_together_table, plainD "ask_worth" s_ask_worth, plainD "stands_behind" s_stands_behind, plainD "all_stands" s_all_stands, plainD "best_ask" s_best_ask, plainD "table_of" s_table_of, plainD "best_worth" s_best_worth, plainD "_law_mixed" s__law_mixed, plainD "_law_draws" s__law_draws, plainD "_law_next" s__law_next]
def fnB : List He.DefD := [plainD "_law_gcd" s__law_gcd, plainD "_law_low" s__law_low, plainD "_law_plus" s__law_plus, plainD "_law_times" s__law_times, plainD "_law_rest" s__law_rest, plainD "_law_less" s__law_less, plainD "_law_same" s__law_same, plainD "_law_chance" s__law_chance, plainD "_law_worth" s__law_worth, plainD "_law_ties" s__law_ties, plainD "_law_web" s__law_web, plainD "_law_asks_of" s__law_asks_of, plainD "_law_may" s__law_may, plainD "_law_behind" s__law_behind, plainD "_law_askable" s__law_askable, plainD "_law_grown" s__law_grown, plainD "_law_all_answers" s__law_all_answers, plainD "_law_run_tree" s__law_run_tree, plainD "_law_kept" s__law_kept, plainD "_law_best" s__law_best, plainD "_law_grouped" s__law_grouped, plainD "_law_group_of" s__law_group_of, plainD "_law_tie_answers" s__law_tie_answers, plainD "_law_together" s__law_together, plainD "_law_wide_truths" s__law_wide_truths, plainD "_law_wide_behind" s__law_wide_behind, plainD "_law_wide_worth" s__law_wide_worth, plainD "_law_wide_stands" s__law_wide_stands, plainD "_law_tried" s__law_tried, plainD "law" s_law]
def fn : List He.DefD := fnA ++ fnB
def exM (K : PySem.W.Frag) : Bool := imB 3 K (.ref (He.ga K "NOTHING")) dNothing && (imB 3 K (.ref (He.ga K "FIRST")) dFirst && imB 3 K (.ref (He.ga K "FIRST_WIDE")) dFirstW)
noncomputable def mkDf {K : PySem.W.Frag} {mg : Str → Option Value} {h : Heap} (X : K.In h) (G : h.Ns mainGlobals mg) (x : Str) {st : Stmt} {ps : List Str} (c : He.SaysD fa fn K) (i j : Nat) (hi : fa[i]? = some (.glo x)) (hj : fn[j]? = some (plainD x st))
    (hb : ∀ (kV doc pm : Value) (an : Option Addr) (cdv ct : Value) (us : List Value), us.length = ps.length → bindArgs (PySem.W.fnOf x x (defArgs st) (defBody st) (defScope st) .none kV doc pm an cdv ct) ⟨us, []⟩ = pure (ps.zip us)) : Df K mg x st ps :=
  ⟨He.ga K x, (c.def_ j hj).choose, fun_plain (c.def_ j hj).choose_spec, He.glo_ok X G (c.fact i hi), (fun_plain (c.def_ j hj).choose_spec).binds hb⟩
noncomputable def mkTxt {K : PySem.W.Frag} {mg : Str → Option Value} {h : Heap} (X : K.In h) (G : h.Ns mainGlobals mg) (m : SaysM fa fn exM K) (L : Df K mg "law" s_law ["_law_script"]) : Txt K mg where
  divisor_of := mkDf X G "divisor_of" (st := s_divisor_of) (ps := ["one", "other"]) m.1 19 0 rfl rfl fun _ _ _ _ _ _ us hl => match us, hl with | [_, _], _ => rfl
  lowest := mkDf X G "lowest" (st := s_lowest) (ps := ["top", "bottom"]) m.1 20 1 rfl rfl fun _ _ _ _ _ _ us hl => match us, hl with | [_, _], _ => rfl
  plus := mkDf X G "plus" (st := s_plus) (ps := ["one", "other"]) m.1 21 2 rfl rfl fun _ _ _ _ _ _ us hl => match us, hl with | [_, _], _ => rfl
  times := mkDf X G "times" (st := s_times) (ps := ["one", "other"]) m.1 22 3 rfl rfl fun _ _ _ _ _ _ us hl => match us, hl with | [_, _], _ => rfl
  less := mkDf X G "less" (st := s_less) (ps := ["one", "other"]) m.1 23 4 rfl rfl fun _ _ _ _ _ _ us hl => match us, hl with | [_, _], _ => rfl
  rest := mkDf X G "rest" (st := s_rest) (ps := ["one"]) m.1 24 5 rfl rfl fun _ _ _ _ _ _ us hl => match us, hl with | [_], _ => rfl
  average := mkDf X G "average" (st := s_average) (ps := ["chance", "worth", "yes", "no"]) m.1 25 6 rfl rfl fun _ _ _ _ _ _ us hl => match us, hl with | [_, _, _, _], _ => rfl
  ends_of := mkDf X G "ends_of" (st := s_ends_of) (ps := ["web", "tie"]) m.1 26 7 rfl rfl fun _ _ _ _ _ _ us hl => match us, hl with | [_, _], _ => rfl
  chance_in := mkDf X G "chance_in" (st := s_chance_in) (ps := ["web", "tie"]) m.1 27 8 rfl rfl fun _ _ _ _ _ _ us hl => match us, hl with | [_, _], _ => rfl
  worth_in := mkDf X G "worth_in" (st := s_worth_in) (ps := ["web", "tie"]) m.1 28 9 rfl rfl fun _ _ _ _ _ _ us hl => match us, hl with | [_, _], _ => rfl
  times_asked := mkDf X G "times_asked" (st := s_times_asked) (ps := ["web", "asked", "thing"]) m.1 29 10 rfl rfl fun _ _ _ _ _ _ us hl => match us, hl with | [_, _, _], _ => rfl
  may_ask := mkDf X G "may_ask" (st := s_may_ask) (ps := ["web", "stand", "tie"]) m.1 30 11 rfl rfl fun _ _ _ _ _ _ us hl => match us, hl with | [_, _, _], _ => rfl
  askable := mkDf X G "askable" (st := s_askable) (ps := ["web", "stand"]) m.1 31 12 rfl rfl fun _ _ _ _ _ _ us hl => match us, hl with | [_, _], _ => rfl
  stand_behind := mkDf X G "stand_behind" (st := s_stand_behind) (ps := ["web", "stand", "tie", "truth"]) m.1 32 13 rfl rfl fun _ _ _ _ _ _ us hl => match us, hl with | [_, _, _, _], _ => rfl
  group_of := mkDf X G "group_of" (st := s_group_of) (ps := ["groups", "tie"]) m.1 33 14 rfl rfl fun _ _ _ _ _ _ us hl => match us, hl with | [_, _], _ => rfl
  truths_of := mkDf X G "truths_of" (st := s_truths_of) (ps := ["groups", "wide", "tie"]) m.1 34 15 rfl rfl fun _ _ _ _ _ _ us hl => match us, hl with | [_, _, _], _ => rfl
  wide_behind := mkDf X G "wide_behind" (st := s_wide_behind) (ps := ["web", "groups", "wide", "tie", "truth"]) m.1 35 16 rfl rfl fun _ _ _ _ _ _ us hl => match us, hl with | [_, _, _, _, _], _ => rfl
  wide_ask_worth := mkDf X G "wide_ask_worth" (st := s_wide_ask_worth) (ps := ["web", "groups", "worths", "wide", "tie"]) m.1 36 17 rfl rfl fun _ _ _ _ _ _ us hl => match us, hl with | [_, _, _, _, _], _ => rfl
  all_wide := mkDf X G "all_wide" (st := s_all_wide) (ps := ["web", "groups"]) m.1 37 18 rfl rfl fun _ _ _ _ _ _ us hl => match us, hl with | [_, _], _ => rfl
  together_table := mkDf X G "together_table" (st := s_together_table) (ps := ["web", "groups"]) m.1 38 19 rfl rfl fun _ _ _ _ _ _ us hl => match us, hl with | [_, _], _ => rfl
  ask_worth := mkDf X G "ask_worth" (st := s_ask_worth) (ps := ["web", "worths", "stand", "tie"]) m.1 39 20 rfl rfl fun _ _ _ _ _ _ us hl => match us, hl with | [_, _, _, _], _ => rfl
  stands_behind := mkDf X G "stands_behind" (st := s_stands_behind) (ps := ["web", "stand"]) m.1 40 21 rfl rfl fun _ _ _ _ _ _ us hl => match us, hl with | [_, _], _ => rfl
  all_stands := mkDf X G "all_stands" (st := s_all_stands) (ps := ["web"]) m.1 41 22 rfl rfl fun _ _ _ _ _ _ us hl => match us, hl with | [_], _ => rfl
  best_ask := mkDf X G "best_ask" (st := s_best_ask) (ps := ["web", "worths", "stand"]) m.1 42 23 rfl rfl fun _ _ _ _ _ _ us hl => match us, hl with | [_, _, _], _ => rfl
  table_of := mkDf X G "table_of" (st := s_table_of) (ps := ["web"]) m.1 43 24 rfl rfl fun _ _ _ _ _ _ us hl => match us, hl with | [_], _ => rfl
  best_worth := mkDf X G "best_worth" (st := s_best_worth) (ps := ["web"]) m.1 44 25 rfl rfl fun _ _ _ _ _ _ us hl => match us, hl with | [_], _ => rfl
  _law_mixed := mkDf X G "_law_mixed" (st := s__law_mixed) (ps := ["_law_cell", "_law_k"]) m.1 45 26 rfl rfl fun _ _ _ _ _ _ us hl => match us, hl with | [_, _], _ => rfl
  _law_draws := mkDf X G "_law_draws" (st := s__law_draws) (ps := ["_law_script"]) m.1 46 27 rfl rfl fun _ _ _ _ _ _ us hl => match us, hl with | [_], _ => rfl
  _law_next := mkDf X G "_law_next" (st := s__law_next) (ps := ["_law_drawn"]) m.1 47 28 rfl rfl fun _ _ _ _ _ _ us hl => match us, hl with | [_], _ => rfl
  _law_gcd := mkDf X G "_law_gcd" (st := s__law_gcd) (ps := ["_law_one", "_law_other"]) m.1 48 29 rfl rfl fun _ _ _ _ _ _ us hl => match us, hl with | [_, _], _ => rfl
  _law_low := mkDf X G "_law_low" (st := s__law_low) (ps := ["_law_top", "_law_bottom"]) m.1 49 30 rfl rfl fun _ _ _ _ _ _ us hl => match us, hl with | [_, _], _ => rfl
  _law_plus := mkDf X G "_law_plus" (st := s__law_plus) (ps := ["_law_one", "_law_other"]) m.1 50 31 rfl rfl fun _ _ _ _ _ _ us hl => match us, hl with | [_, _], _ => rfl
  _law_times := mkDf X G "_law_times" (st := s__law_times) (ps := ["_law_one", "_law_other"]) m.1 51 32 rfl rfl fun _ _ _ _ _ _ us hl => match us, hl with | [_, _], _ => rfl
  _law_rest := mkDf X G "_law_rest" (st := s__law_rest) (ps := ["_law_one"]) m.1 52 33 rfl rfl fun _ _ _ _ _ _ us hl => match us, hl with | [_], _ => rfl
  _law_less := mkDf X G "_law_less" (st := s__law_less) (ps := ["_law_one", "_law_other"]) m.1 53 34 rfl rfl fun _ _ _ _ _ _ us hl => match us, hl with | [_, _], _ => rfl
  _law_same := mkDf X G "_law_same" (st := s__law_same) (ps := ["_law_found", "_law_due"]) m.1 54 35 rfl rfl fun _ _ _ _ _ _ us hl => match us, hl with | [_, _], _ => rfl
  _law_chance := mkDf X G "_law_chance" (st := s__law_chance) (ps := ["_law_number", "_law_kind"]) m.1 55 36 rfl rfl fun _ _ _ _ _ _ us hl => match us, hl with | [_, _], _ => rfl
  _law_worth := mkDf X G "_law_worth" (st := s__law_worth) (ps := ["_law_number", "_law_kind"]) m.1 56 37 rfl rfl fun _ _ _ _ _ _ us hl => match us, hl with | [_, _], _ => rfl
  _law_ties := mkDf X G "_law_ties" (st := s__law_ties) (ps := ["_law_drawn", "_law_things", "_law_many"]) m.1 57 38 rfl rfl fun _ _ _ _ _ _ us hl => match us, hl with | [_, _, _], _ => rfl
  _law_web := mkDf X G "_law_web" (st := s__law_web) (ps := ["_law_drawn", "_law_most", "_law_ties_here"]) m.1 58 39 rfl rfl fun _ _ _ _ _ _ us hl => match us, hl with | [_, _, _], _ => rfl
  _law_asks_of := mkDf X G "_law_asks_of" (st := s__law_asks_of) (ps := ["_law_web_here", "_law_asked", "_law_thing"]) m.1 59 40 rfl rfl fun _ _ _ _ _ _ us hl => match us, hl with | [_, _, _], _ => rfl
  _law_may := mkDf X G "_law_may" (st := s__law_may) (ps := ["_law_web_here", "_law_stand", "_law_tie"]) m.1 60 41 rfl rfl fun _ _ _ _ _ _ us hl => match us, hl with | [_, _, _], _ => rfl
  _law_behind := mkDf X G "_law_behind" (st := s__law_behind) (ps := ["_law_web_here", "_law_stand", "_law_tie", "_law_truth"]) m.1 61 42 rfl rfl fun _ _ _ _ _ _ us hl => match us, hl with | [_, _, _, _], _ => rfl
  _law_askable := mkDf X G "_law_askable" (st := s__law_askable) (ps := ["_law_web_here", "_law_stand"]) m.1 62 43 rfl rfl fun _ _ _ _ _ _ us hl => match us, hl with | [_, _], _ => rfl
  _law_grown := mkDf X G "_law_grown" (st := s__law_grown) (ps := ["_law_drawn", "_law_web_here", "_law_most"]) m.1 63 44 rfl rfl fun _ _ _ _ _ _ us hl => match us, hl with | [_, _, _], _ => rfl
  _law_all_answers := mkDf X G "_law_all_answers" (st := s__law_all_answers) (ps := ["_law_many"]) m.1 64 45 rfl rfl fun _ _ _ _ _ _ us hl => match us, hl with | [_], _ => rfl
  _law_run_tree := mkDf X G "_law_run_tree" (st := s__law_run_tree) (ps := ["_law_tree", "_law_answers"]) m.1 65 46 rfl rfl fun _ _ _ _ _ _ us hl => match us, hl with | [_, _], _ => rfl
  _law_kept := mkDf X G "_law_kept" (st := s__law_kept) (ps := ["_law_web_here", "_law_run"]) m.1 66 47 rfl rfl fun _ _ _ _ _ _ us hl => match us, hl with | [_, _], _ => rfl
  _law_best := mkDf X G "_law_best" (st := s__law_best) (ps := ["_law_web_here", "_law_stand", "_law_known"]) m.1 67 48 rfl rfl fun _ _ _ _ _ _ us hl => match us, hl with | [_, _, _], _ => rfl
  _law_grouped := mkDf X G "_law_grouped" (st := s__law_grouped) (ps := ["_law_drawn", "_law_web_here"]) m.1 68 49 rfl rfl fun _ _ _ _ _ _ us hl => match us, hl with | [_, _], _ => rfl
  _law_group_of := mkDf X G "_law_group_of" (st := s__law_group_of) (ps := ["_law_groups", "_law_tie"]) m.1 69 50 rfl rfl fun _ _ _ _ _ _ us hl => match us, hl with | [_, _], _ => rfl
  _law_tie_answers := mkDf X G "_law_tie_answers" (st := s__law_tie_answers) (ps := ["_law_web_here", "_law_groups", "_law_answers"]) m.1 70 51 rfl rfl fun _ _ _ _ _ _ us hl => match us, hl with | [_, _, _], _ => rfl
  _law_together := mkDf X G "_law_together" (st := s__law_together) (ps := ["_law_web_here", "_law_groups", "_law_tree"]) m.1 71 52 rfl rfl fun _ _ _ _ _ _ us hl => match us, hl with | [_, _, _], _ => rfl
  _law_wide_truths := mkDf X G "_law_wide_truths" (st := s__law_wide_truths) (ps := ["_law_groups", "_law_wide", "_law_tie"]) m.1 72 53 rfl rfl fun _ _ _ _ _ _ us hl => match us, hl with | [_, _, _], _ => rfl
  _law_wide_behind := mkDf X G "_law_wide_behind" (st := s__law_wide_behind) (ps := ["_law_web_here", "_law_groups", "_law_wide", "_law_tie", "_law_truth"]) m.1 73 54 rfl rfl fun _ _ _ _ _ _ us hl => match us, hl with | [_, _, _, _, _], _ => rfl
  _law_wide_worth := mkDf X G "_law_wide_worth" (st := s__law_wide_worth) (ps := ["_law_web_here", "_law_groups", "_law_worths", "_law_wide", "_law_tie"]) m.1 74 55 rfl rfl fun _ _ _ _ _ _ us hl => match us, hl with | [_, _, _, _, _], _ => rfl
  _law_wide_stands := mkDf X G "_law_wide_stands" (st := s__law_wide_stands) (ps := ["_law_web_here", "_law_groups"]) m.1 75 56 rfl rfl fun _ _ _ _ _ _ us hl => match us, hl with | [_, _], _ => rfl
  _law_tried := mkDf X G "_law_tried" (st := s__law_tried) (ps := ["_law_web_here", "_law_groups"]) m.1 76 57 rfl rfl fun _ _ _ _ _ _ us hl => match us, hl with | [_, _], _ => rfl
  law := L
  abs := He.free_ok X G (m.1.fact 0 (f := .free "abs") rfl)
  all := He.free_ok X G (m.1.fact 1 (f := .free "all") rfl)
  enumerate := He.free_ok X G (m.1.fact 2 (f := .free "enumerate") rfl)
  int := He.free_ok X G (m.1.fact 3 (f := .free "int") rfl)
  len := He.free_ok X G (m.1.fact 4 (f := .free "len") rfl)
  max := He.free_ok X G (m.1.fact 5 (f := .free "max") rfl)
  min := He.free_ok X G (m.1.fact 6 (f := .free "min") rfl)
  range := He.free_ok X G (m.1.fact 7 (f := .free "range") rfl)
  repr := He.free_ok X G (m.1.fact 8 (f := .free "repr") rfl)
  reversed := He.free_ok X G (m.1.fact 9 (f := .free "reversed") rfl)
  sorted := He.free_ok X G (m.1.fact 10 (f := .free "sorted") rfl)
  sum := He.free_ok X G (m.1.fact 11 (f := .free "sum") rfl)
  tuple := He.free_ok X G (m.1.fact 12 (f := .free "tuple") rfl)
  zip := He.free_ok X G (m.1.fact 13 (f := .free "zip") rfl)
  aNOTHING := He.ga K "NOTHING"
  NOTHING := He.glo_ok X G (m.1.fact 14 (f := .glo "NOTHING") rfl)
  iNOTHING := im_top (n := 3) (He.ba m.2).1
  aFIRST := He.ga K "FIRST"
  FIRST := He.glo_ok X G (m.1.fact 15 (f := .glo "FIRST") rfl)
  iFIRST := im_top (n := 3) (He.ba (He.ba m.2).2).1
  aFIRST_WIDE := He.ga K "FIRST_WIDE"
  FIRST_WIDE := He.glo_ok X G (m.1.fact 16 (f := .glo "FIRST_WIDE") rfl)
  iFIRST_WIDE := im_top (n := 3) (He.ba (He.ba m.2).2).2
  tMOST_TIES_together := (He.int_ok X G (x := "MOST_TIES_together") (i := 6) (m.1.fact 17 (f := .int "MOST_TIES_together" 6) rfl)).choose
  MOST_TIES_together := (He.int_ok X G (x := "MOST_TIES_together") (i := 6) (m.1.fact 17 (f := .int "MOST_TIES_together" 6) rfl)).choose_spec
  tMOST_TIES_tables := (He.int_ok X G (x := "MOST_TIES_tables") (i := 7) (m.1.fact 18 (f := .int "MOST_TIES_tables" 7) rfl)).choose
  MOST_TIES_tables := (He.int_ok X G (x := "MOST_TIES_tables") (i := 7) (m.1.fact 18 (f := .int "MOST_TIES_tables" 7) rfl)).choose_spec
/-! ### the end over facts -/
theorem walk_ofH {l : PySem.W.OpenLaw} {n k : Nat} {q : Program} {loose : List Str} {XP : (Str → Option Value) → Heap → Prop} {YP : World → Heap → Prop} {d : DefRec} {x : Str}
    (hn : l.most = some n) (hn2 : n ≤ sizeLine) (hdf : d.params.defaults = []) (hr : Room k callerA)
    (F : ∀ (w : World) (mg : Str → Option Value) (fa : Addr) (h : Heap), YP w h → h.Ns mainGlobals mg → mg d.name = some (.ref fa) →
      ∃ (K : PySem.W.Frag) (fd : FuncData), K.In h ∧ (∀ (s : Shared) (u : Value), BindsTo s fd ⟨[u], []⟩ [(x, u)]) ∧ ∀ base : Heap, K.In base → base.Ns mainGlobals mg → FnG l.prog w K mg base k fa fd [x] (spD l.prog w K (lawP n))) :
    PySem.W.WalkO q loose XP YP l.row.toRowW d [] (fun f vs => PySem.call f vs) := by
  refine Att.attach_callB hn hdf fun w s₀ s₁ mg mb fa o pm cd doc a vs ns G Y ho hd hcd hmg hobj hints hlen hbits hg => ?_
  obtain ⟨K, fd, KX, hb, hF⟩ := F w mg fa _ Y G.T.g hmg
  exact head_run KX G.T.g G.T.b G.T.builtins G.T.nolimit hg hobj hints hlen (Nat.le_trans hlen hn2) hbits hr hF hb
theorem law_facts {P : Program} {w : World} {K : PySem.W.Frag} {h : Heap} {mg : Str → Option Value} {f : Addr} (X : K.In h) (G : h.Ns mainGlobals mg) (hfa : mg ("law" : Str) = some (.ref f)) (m : SaysM fa fn exM K) :
    ∃ fd : FuncData, (∀ (s : Shared) (v : Value), BindsTo s fd ⟨[v], []⟩ [("_law_script", v)]) ∧ ∀ base : Heap, K.In base → base.Ns mainGlobals mg → FnG P w K mg base 21 f fd ["_law_script"] (spD P w K (lawP 63)) := by
  obtain ⟨fd, F⟩ := m.1.def_ 58 (d := plainD "law" s_law) rfl
  have b := FunD.bindsA (ps := ["_law_script"]) F fun _ _ _ _ _ _ us hl => match us, hl with | [_], _ => rfl
  have e1 : mg "law" = some (.ref (He.ga K "law")) := He.glo_ok X G (m.1.fact 77 (f := .glo "law") rfl)
  have e := hfa.symm.trans e1
  cases e
  have F0 : Fun K "law" "law" s_law (He.ga K "law") fd := fun_plain F
  have b0 : Binds K fd ["_law_script"] [] := F0.binds fun _ _ _ _ _ _ us hl => match us, hl with | [_], _ => rfl
  let L : Df K mg "law" s_law ["_law_script"] := ⟨He.ga K "law", fd, F0, e1, b0⟩
  exact ⟨fd, fun s v => b s [v] rfl, fun base _ _ => all_law (mkTxt X G m L)⟩
end Dl

open PySem PySem.W PyProof.Rows
set_option maxHeartbeats 0 in
theorem PySem.Challenge.cw_askedpairs_k75_whole_best_together_holds : PySem.Challenge.rw_askedpairs_k75_whole_best_together.Holds := by
  w_on; o_law; k_head; (case hw => w_witness2)
  k_fill
  refine Dl.walk_ofG (l := PySem.Challenge.rw_askedpairs_k75_whole_best_together) (n := 63) (k := 21) (x := "_law_script") rfl (by decide) rfl ⟨rfl, by decide, by decide⟩ (fun w h Y => PySem.W.kIn_of Y) ?F
  case F =>
    intro w mg fa h KX G hmg
    have hmg' : mg ("law" : PySem.Str) = some (.ref fa) := hmg
    refine Dl.law_facts KX G hmg' ⟨?e1, ?e2⟩
    case e1 =>
      show He.obsD Dl.fa Dl.fn _ = He.valD Dl.fn
      kernel_rfl
    case e2 => kernel_rfl

