import PyProof.Rows.All
import Wide.All
import OpenK.AllK
import Wide.FinOn
import HandS.ForMost
import HandS.Deep
import KE.SortData
import KE.DataMinMax
import HandS.Exc
import HandS.Wide
import HandS.Zip
import HandS.Conv
import HandS.Walk
import HandS.Defaults
import KE.KStateDown
import HandS.Ends
import HandS.More
import HandS.Head0
import HandS.Head1
import HandS.Head2
import HandS.HeadEnd
import HandS.HeadHook1
import HandS.HeadHook2
import PySem.Challenge.RW_ringloads_k40_whole_chains_rounded
set_option Elab.async false
set_option linter.all false
set_option maxRecDepth 100000
set_option maxHeartbeats 0
namespace K40

/-! ### fractions -/
def Bd (n : Nat) (q : Rat) : Prop := q.num.natAbs < 2 ^ n ∧ q.den < 2 ^ n
theorem Bd.mono {n m : Nat} {q : Rat} (h : Bd n q) (l : n ≤ m) : Bd m q :=
  ⟨Nat.lt_of_lt_of_le h.1 (Nat.pow_le_pow_right (by decide) l), Nat.lt_of_lt_of_le h.2 (Nat.pow_le_pow_right (by decide) l)⟩
theorem div_natAbs_le (t : Int) (g : Nat) : (t / (g : Int)).natAbs ≤ t.natAbs := Int.natAbs_ediv_le_natAbs t g
theorem mkRat_num_le (t : Int) (b : Nat) : (mkRat t b).num.natAbs ≤ t.natAbs := by
  rw [Rat.num_mkRat]
  split
  · exact Nat.zero_le _
  · exact div_natAbs_le _ _
theorem mkRat_den_le (t : Int) (b : Nat) (hb : 0 < b) : (mkRat t b).den ≤ b := by
  rw [Rat.den_mkRat]
  split
  · omega
  · exact Nat.div_le_self _ _
theorem bd_mk {n : Nat} {t : Int} {b : Nat} (hb : 0 < b) (h1 : t.natAbs < 2 ^ n) (h2 : b < 2 ^ n) : Bd n (mkRat t b) :=
  ⟨Nat.lt_of_le_of_lt (mkRat_num_le t b) h1, Nat.lt_of_le_of_lt (mkRat_den_le t b hb) h2⟩
theorem mul_lt_two {a b n m : Nat} (h1 : a < 2 ^ n) (h2 : b < 2 ^ m) : a * b < 2 ^ (n + m) := by
  rw [Nat.pow_add]
  exact Nat.mul_lt_mul'' h1 h2
theorem two_lt {a b n : Nat} (h1 : a < 2 ^ n) (h2 : b < 2 ^ n) : a + b < 2 ^ (n + 1) := by
  rw [Nat.pow_succ]
  omega
theorem Bd.add {n m : Nat} {q r : Rat} (h : Bd n q) (k : Bd m r) : Bd (n + m + 1) (q + r) := by
  rw [Rat.add_def']
  refine bd_mk (Nat.mul_pos q.den_pos r.den_pos) ?_ ?_
  · refine Nat.lt_of_le_of_lt (Int.natAbs_add_le _ _) ?_
    rw [Int.natAbs_mul, Int.natAbs_mul]
    refine two_lt (mul_lt_two h.1 k.2) ?_
    rw [Nat.add_comm n m]
    exact mul_lt_two k.1 h.2
  · exact Nat.lt_of_lt_of_le (mul_lt_two h.2 k.2) (Nat.pow_le_pow_right (by decide) (by omega))
theorem Bd.sub {n m : Nat} {q r : Rat} (h : Bd n q) (k : Bd m r) : Bd (n + m + 1) (q - r) := by
  rw [Rat.sub_eq_add_neg]
  exact Bd.add h ⟨by rw [Rat.neg_num, Int.natAbs_neg]; exact k.1, by rw [Rat.neg_den]; exact k.2⟩
theorem Bd.mul {n m : Nat} {q r : Rat} (h : Bd n q) (k : Bd m r) : Bd (n + m) (q * r) := by
  rw [Rat.mul_def']
  refine bd_mk (Nat.mul_pos q.den_pos r.den_pos) ?_ (mul_lt_two h.2 k.2)
  rw [Int.natAbs_mul]
  exact mul_lt_two h.1 k.1
theorem bd0 : Bd 1 0 := ⟨by decide, by decide⟩
/-- one half -/
def hf : Rat := ⟨1, 2, by decide, by decide⟩
theorem hf_two : hf + hf = 1 := by decide +kernel
theorem bdH : Bd 2 hf := ⟨by decide, by decide⟩
theorem half_low (q : Rat) : mkRat q.num (2 * q.den) = q * hf := by
  rw [Rat.mul_def']
  show mkRat q.num (2 * q.den) = mkRat (q.num * 1) (q.den * 2)
  rw [Int.mul_one, Nat.mul_comm]
theorem abs_low (q : Rat) : mkRat (q.num.natAbs : Int) q.den = if q < 0 then -q else q := by
  split
  · rename_i h
    have h1 : q.num < 0 := by
      have := (Rat.lt_iff q 0).mp h
      simpa using this
    have e : (q.num.natAbs : Int) = (-q).num := by
      rw [Rat.neg_num]
      omega
    rw [e]
    show mkRat (-q).num (-q).den = -q
    exact Rat.mkRat_self _
  · rename_i h
    have h1 : ¬ q.num < 0 := fun z => h ((Rat.lt_iff q 0).mpr (by simpa using z))
    have e : (q.num.natAbs : Int) = q.num := by omega
    rw [e]
    exact Rat.mkRat_self _

/-! ### sums -/
def sumL (l : List Nat) (f : Nat → Rat) : Rat := (l.map f).sum
theorem sumL_nil (f : Nat → Rat) : sumL [] f = 0 := rfl
theorem sumL_cons (k : Nat) (l : List Nat) (f : Nat → Rat) : sumL (k :: l) f = f k + sumL l f := by
  unfold sumL
  rw [List.map_cons, List.sum_cons]
theorem sumL_append (l r : List Nat) (f : Nat → Rat) : sumL (l ++ r) f = sumL l f + sumL r f := by
  induction l with
  | nil => rw [List.nil_append, sumL_nil, Rat.zero_add]
  | cons k l ih => rw [List.cons_append, sumL_cons, sumL_cons, ih, Rat.add_assoc]
theorem sumL_snoc (l : List Nat) (k : Nat) (f : Nat → Rat) : sumL (l ++ [k]) f = sumL l f + f k := by
  rw [sumL_append, sumL_cons, sumL_nil, Rat.add_zero]
theorem sumL_perm {l r : List Nat} (h : l.Perm r) (f : Nat → Rat) : sumL l f = sumL r f := by
  induction h with
  | nil => rfl
  | cons x _ ih => rw [sumL_cons, sumL_cons, ih]
  | swap x y l =>
    rw [sumL_cons, sumL_cons, sumL_cons, sumL_cons]
    grind
  | trans _ _ a b => rw [a, b]
theorem sumL_congr {l : List Nat} {f g : Nat → Rat} (h : ∀ k ∈ l, f k = g k) : sumL l f = sumL l g := by
  induction l with
  | nil => rfl
  | cons k l ih =>
    rw [sumL_cons, sumL_cons, h k (List.mem_cons_self ..), ih fun j hj => h j (List.mem_cons_of_mem _ hj)]
theorem sumL_sub (l : List Nat) (f g : Nat → Rat) : sumL l f - sumL l g = sumL l fun k => f k - g k := by
  induction l with
  | nil => exact Rat.sub_self
  | cons k l ih =>
    rw [sumL_cons, sumL_cons, sumL_cons, ← ih]
    grind
theorem sumL_two (l : List Nat) (f g : Nat → Rat) : (sumL l f + sumL l f) - sumL l g = sumL l fun k => f k + f k - g k := by
  induction l with
  | nil =>
    rw [sumL_nil, sumL_nil, sumL_nil]
    grind
  | cons k l ih =>
    rw [sumL_cons, sumL_cons, sumL_cons, ← ih]
    grind
theorem sumL_neg (l : List Nat) (f : Nat → Rat) : 0 - sumL l f = sumL l fun k => 0 - f k := by
  induction l with
  | nil =>
    rw [sumL_nil, sumL_nil]
    grind
  | cons k l ih =>
    rw [sumL_cons, sumL_cons, ← ih]
    grind
theorem take_snoc {l : List Nat} {i k : Nat} (h : l[i]? = some k) : l.take (i + 1) = l.take i ++ [k] := by
  rw [List.take_add_one, h]
  rfl

/-! ### asks -/
structure Ask where
  up : Bool
  p : Nat
  s : Rat
def Ask.one (a : Ask) (h : Nat) : Nat := if a.up then a.p else a.p + h
def Ask.oth (a : Ask) (h : Nat) : Nat := if a.up then a.p + h else a.p
/-- what goes by a way (true: on) -/
def gone (a : Ask) (q : Rat) (w : Bool) : Rat := if w then q else a.s - q
def gain (a : Ask) (q : Rat) (w : Bool) : Rat := if w = a.up then a.s - gone a q a.up else 0 - gone a q a.up
/-- the law's row -/
def row (a : Ask) (q : Rat) (w : Bool) : Rat := if a.up then (if w then a.s - q else 0 - q) else 0 - (if w then a.s - q else 0 - q)
theorem gain_row (a : Ask) (q : Rat) (w : Bool) : gain a q w = row a q w := by
  unfold gain row gone
  cases a.up <;> cases w <;> simp <;> grind
structure Chain (h n m : Nat) (A : Nat → Ask) : Prop where
  h2 : 2 ≤ h
  h5 : h ≤ 5
  n2 : n = 2 * h ∨ n = 2 * h + 1
  m1 : 1 ≤ m
  m5 : m ≤ 5
  lt : ∀ k, k < m → (A k).p < h
  inj : ∀ k l, k < m → l < m → (A k).p = (A l).p → k = l
  pos : ∀ k, k < m → 0 < (A k).s
  bd : ∀ k, k < m → Bd 50 (A k).s
structure Sent (m : Nat) (A : Nat → Ask) (q : Nat → Rat) : Prop where
  pos : ∀ k, k < m → 0 < q k
  lt : ∀ k, k < m → q k < (A k).s
  bd : ∀ k, k < m → Bd 100 (q k)

/-! ### ties -/
def over (a : Ask) (h n t : Nat) : Bool := decide (((t : Int) - (a.one h : Int)) % (n : Int) < ((a.oth h : Int) - (a.one h : Int)) % (n : Int))
theorem over_lo {a : Ask} {h n t : Nat} (h2 : 2 ≤ h) (h5 : h ≤ 5) (hn : n = 2 * h ∨ n = 2 * h + 1) (hp : a.p < h) (ht : t < h) : over a h n t = (a.up == decide (a.p ≤ t)) := by
  unfold over Ask.one Ask.oth
  have hh : h = 2 ∨ h = 3 ∨ h = 4 ∨ h = 5 := by omega
  cases a.up
  · simp only [Bool.false_eq_true, if_false]
    by_cases c : a.p ≤ t
    · rw [decide_eq_true c]
      refine decide_eq_false ?_
      rcases hh with rfl | rfl | rfl | rfl <;> rcases hn with rfl | rfl <;> omega
    · rw [decide_eq_false c]
      refine decide_eq_true ?_
      rcases hh with rfl | rfl | rfl | rfl <;> rcases hn with rfl | rfl <;> omega
  · simp only [if_true]
    by_cases c : a.p ≤ t
    · rw [decide_eq_true c]
      refine decide_eq_true ?_
      rcases hh with rfl | rfl | rfl | rfl <;> rcases hn with rfl | rfl <;> omega
    · rw [decide_eq_false c]
      refine decide_eq_false ?_
      rcases hh with rfl | rfl | rfl | rfl <;> rcases hn with rfl | rfl <;> omega
theorem over_hi {a : Ask} {h n t : Nat} (h2 : 2 ≤ h) (h5 : h ≤ 5) (hn : n = 2 * h ∨ n = 2 * h + 1) (hp : a.p < h) (ht : t < h) : over a h n (t + h) = !(a.up == decide (a.p ≤ t)) := by
  unfold over Ask.one Ask.oth
  have hh : h = 2 ∨ h = 3 ∨ h = 4 ∨ h = 5 := by omega
  cases a.up
  · simp only [Bool.false_eq_true, if_false]
    by_cases c : a.p ≤ t
    · rw [decide_eq_true c]
      refine decide_eq_true ?_
      rcases hh with rfl | rfl | rfl | rfl <;> rcases hn with rfl | rfl <;> omega
    · rw [decide_eq_false c]
      refine decide_eq_false ?_
      rcases hh with rfl | rfl | rfl | rfl <;> rcases hn with rfl | rfl <;> omega
  · simp only [if_true]
    by_cases c : a.p ≤ t
    · rw [decide_eq_true c]
      refine decide_eq_false ?_
      rcases hh with rfl | rfl | rfl | rfl <;> rcases hn with rfl | rfl <;> omega
    · rw [decide_eq_false c]
      refine decide_eq_true ?_
      rcases hh with rfl | rfl | rfl | rfl <;> rcases hn with rfl | rfl <;> omega
/-- what an ask's part lays on a tie -/
def lays (a : Ask) (h n t : Nat) (q : Rat) : Rat := if over a h n t then q else a.s - q
/-- a tie's load, of the first so many asks -/
def load (A : Nat → Ask) (h n t : Nat) (q : Nat → Rat) (k : Nat) : Rat := sumL (List.range k) fun j => lays (A j) h n t (q j)
theorem load_succ (A : Nat → Ask) (h n t : Nat) (q : Nat → Rat) (k : Nat) : load A h n t q (k + 1) = load A h n t q k + lays (A k) h n t (q k) := by
  unfold load
  rw [List.range_succ, sumL_snoc]
def whole (A : Nat → Ask) (w : Nat → Bool) (k : Nat) : Rat := if w k then (A k).s else 0
def rowF (A : Nat → Ask) (q : Nat → Rat) (w : Nat → Bool) (k : Nat) : Rat := row (A k) (q k) (w k)
/-- the sum of the rows to place t -/
def first (A : Nat → Ask) (q : Nat → Rat) (w : Nat → Bool) (l : List Nat) (t : Nat) : Rat := sumL l fun k => if (A k).p ≤ t then rowF A q w k else 0
theorem tie_lo {a : Ask} {h n t : Nat} {q : Rat} {w : Bool} (h2 : 2 ≤ h) (h5 : h ≤ 5) (hn : n = 2 * h ∨ n = 2 * h + 1) (hp : a.p < h) (ht : t < h) :
    lays a h n t (if w then a.s else 0) - lays a h n t q = (if a.p ≤ t then row a q w else 0) + (if a.p ≤ t then row a q w else 0) - row a q w := by
  unfold lays row
  rw [over_lo h2 h5 hn hp ht]
  by_cases c : a.p ≤ t <;> cases a.up <;> cases w <;> simp [c] <;> grind
theorem tie_hi {a : Ask} {h n t : Nat} {q : Rat} {w : Bool} (h2 : 2 ≤ h) (h5 : h ≤ 5) (hn : n = 2 * h ∨ n = 2 * h + 1) (hp : a.p < h) (ht : t < h) :
    lays a h n (t + h) (if w then a.s else 0) - lays a h n (t + h) q = 0 - ((if a.p ≤ t then row a q w else 0) + (if a.p ≤ t then row a q w else 0) - row a q w) := by
  unfold lays row
  rw [over_hi h2 h5 hn hp ht]
  by_cases c : a.p ≤ t <;> cases a.up <;> cases w <;> simp [c] <;> grind
theorem gains_lo {h n m : Nat} {A : Nat → Ask} {q : Nat → Rat} {w : Nat → Bool} {l : List Nat} (C : Chain h n m A) (hl : l.Perm (List.range m)) {t : Nat} (ht : t < h) :
    load A h n t (whole A w) m - load A h n t q m = (first A q w l t + first A q w l t) - sumL l (rowF A q w) := by
  unfold load first
  rw [sumL_sub, sumL_perm hl, sumL_perm hl, sumL_two]
  refine sumL_congr fun k hk => ?_
  have hk' : k < m := List.mem_range.mp hk
  exact tie_lo C.h2 C.h5 C.n2 (C.lt k hk') ht
theorem gains_hi {h n m : Nat} {A : Nat → Ask} {q : Nat → Rat} {w : Nat → Bool} {l : List Nat} (C : Chain h n m A) (hl : l.Perm (List.range m)) {t : Nat} (ht : t < h) :
    load A h n (t + h) (whole A w) m - load A h n (t + h) q m = 0 - ((first A q w l t + first A q w l t) - sumL l (rowF A q w)) := by
  unfold load first
  rw [sumL_sub, sumL_perm hl, sumL_perm hl, sumL_two, sumL_neg]
  refine sumL_congr fun k hk => ?_
  have hk' : k < m := List.mem_range.mp hk
  exact tie_hi C.h2 C.h5 C.n2 (C.lt k hk') ht

/-! ### the order of the lesser places -/
def ord (m : Nat) (A : Nat → Ask) : List Nat := (List.range m).mergeSort fun k l => decide ((A k).p ≤ (A l).p)
theorem ord_perm (m : Nat) (A : Nat → Ask) : (ord m A).Perm (List.range m) := List.mergeSort_perm _ _
theorem ord_le (m : Nat) (A : Nat → Ask) : (ord m A).Pairwise fun k l => (A k).p ≤ (A l).p := by
  have h := List.pairwise_mergeSort (le := fun k l : Nat => decide ((A k).p ≤ (A l).p)) (fun a b c h1 h2 => decide_eq_true (Nat.le_trans (of_decide_eq_true h1) (of_decide_eq_true h2)))
    (fun a b => by
      rcases Nat.le_total (A a).p (A b).p with h | h
      · rw [decide_eq_true h]
        rfl
      · rw [decide_eq_true h, Bool.or_true]) (List.range m)
  exact h.imp fun h => of_decide_eq_true h
theorem ord_len (m : Nat) (A : Nat → Ask) : (ord m A).length = m := by
  rw [(ord_perm m A).length_eq, List.length_range]
theorem ord_mem {m : Nat} {A : Nat → Ask} {k : Nat} (h : k ∈ ord m A) : k < m := List.mem_range.mp ((ord_perm m A).mem_iff.mp h)
theorem ord_nodup (m : Nat) (A : Nat → Ask) : (ord m A).Nodup := (ord_perm m A).nodup_iff.mpr List.nodup_range
/-- there is just one such list -/
theorem ord_uniq {h n m : Nat} {A : Nat → Ask} (C : Chain h n m A) {l : List Nat} (hp : l.Perm (List.range m)) (hs : l.Pairwise fun k l => (A k).p ≤ (A l).p) : l = ord m A := by
  refine (hp.trans (ord_perm m A).symm).eq_of_pairwise (le := fun k l => (A k).p ≤ (A l).p) ?_ hs (ord_le m A)
  intro a b ha hb h1 h2
  exact C.inj a b (List.mem_range.mp (hp.mem_iff.mp ha)) (ord_mem hb) (Nat.le_antisymm h1 h2)

/-! ### what is due -/
def most (A : Nat → Ask) : Nat → Rat
  | 0 => 0
  | k + 1 => if most A k < (A k).s then (A k).s else most A k
theorem most_le (A : Nat → Ask) : ∀ {m k : Nat}, k < m → (A k).s ≤ most A m
  | m + 1, k, h => by
    unfold most
    by_cases e : k = m
    · subst e
      split <;> grind
    · have ih := most_le A (m := m) (k := k) (by omega)
      split <;> grind
theorem most_nonneg (A : Nat → Ask) : ∀ m, 0 ≤ most A m
  | 0 => Rat.le_refl
  | m + 1 => by
    have ih := most_nonneg A m
    unfold most
    split <;> grind
theorem most_bd {A : Nat → Ask} : ∀ {m : Nat}, (∀ k, k < m → Bd 50 (A k).s) → Bd 50 (most A m)
  | 0, _ => bd0.mono (by decide)
  | m + 1, h => by
    unfold most
    split
    · exact h m (by omega)
    · exact most_bd fun k hk => h k (by omega)
/-- the sum of the first i rows in the order -/
def psum (m : Nat) (A : Nat → Ask) (q : Nat → Rat) (w : Nat → Bool) (i : Nat) : Rat := sumL ((ord m A).take i) (rowF A q w)
def okAt (m : Nat) (A : Nat → Ask) (q : Nat → Rat) (w : Nat → Bool) (i : Nat) : Prop := psum m A q w i ≤ most A m * hf ∧ 0 - most A m * hf ≤ psum m A q w i
def Due (m : Nat) (A : Nat → Ask) (q : Nat → Rat) (w : Nat → Bool) : Prop := ∀ i, i < m → okAt m A q w (i + 1)
theorem psum_zero (m : Nat) (A : Nat → Ask) (q : Nat → Rat) (w : Nat → Bool) : psum m A q w 0 = 0 := rfl
theorem psum_succ {m : Nat} {A : Nat → Ask} {q : Nat → Rat} {w : Nat → Bool} {i k : Nat} (h : (ord m A)[i]? = some k) : psum m A q w (i + 1) = psum m A q w i + rowF A q w k := by
  unfold psum
  rw [take_snoc h, sumL_snoc]
theorem hf_twice (r : Rat) : r * hf + r * hf = r := by
  rw [← Rat.mul_add, hf_two, Rat.mul_one]
theorem half_nonneg (A : Nat → Ask) (m : Nat) : 0 ≤ most A m * hf := Rat.mul_nonneg (most_nonneg A m) (by decide)
theorem ok_zero (m : Nat) (A : Nat → Ask) (q : Nat → Rat) (w : Nat → Bool) : okAt m A q w 0 := by
  have h := half_nonneg A m
  unfold okAt
  rw [psum_zero]
  exact ⟨h, by grind⟩
def updW (w : Nat → Bool) (k : Nat) (b : Bool) : Nat → Bool := fun j => if j = k then b else w j
theorem updW_same (w : Nat → Bool) (k : Nat) (b : Bool) : updW w k b k = b := if_pos rfl
theorem updW_ne (w : Nat → Bool) (k : Nat) (b : Bool) {j : Nat} (h : j ≠ k) : updW w k b j = w j := if_neg h
theorem updW_upd (w : Nat → Bool) (k : Nat) (b c : Bool) : updW (updW w k b) k c = updW w k c := by
  funext j
  unfold updW
  split <;> rfl
theorem nodup_take {l : List Nat} (hn : l.Nodup) {i j k : Nat} (h : l[i]? = some k) (hj : j ≤ i) : k ∉ l.take j := by
  intro hk
  obtain ⟨x, hx, e⟩ := List.getElem_of_mem hk
  rw [List.getElem_take] at e
  rw [List.length_take] at hx
  obtain ⟨hi, e2⟩ := List.getElem?_eq_some_iff.mp h
  have hp := List.pairwise_iff_getElem.mp hn x i (by omega) hi (by omega)
  exact hp (e.trans e2.symm)
theorem psum_upd {m : Nat} {A : Nat → Ask} {q : Nat → Rat} {w : Nat → Bool} {i j k : Nat} {b : Bool} (h : (ord m A)[i]? = some k) (hj : j ≤ i) : psum m A q (updW w k b) j = psum m A q w j := by
  unfold psum
  refine sumL_congr fun x hx => ?_
  unfold rowF
  rw [updW_ne]
  intro e
  subst e
  exact nodup_take (ord_nodup m A) h hj hx
theorem row_up (a : Ask) (q : Rat) : row a q a.up = a.s - gone a q a.up := by
  rw [← gain_row]
  unfold gain
  rw [if_pos rfl]
theorem row_down (a : Ask) (q : Rat) : row a q (!a.up) = 0 - gone a q a.up := by
  rw [← gain_row]
  unfold gain
  rw [if_neg (by cases a.up <;> decide)]
theorem gone_pos {a : Ask} {q : Rat} (w : Bool) (h0 : 0 < q) (h1 : q < a.s) : 0 < gone a q w ∧ gone a q w < a.s := by
  unfold gone
  cases w <;> simp <;> grind
/-- the greedy choice keeps within half of the greatest -/
theorem greedy_up {m : Nat} {A : Nat → Ask} {q : Nat → Rat} {w : Nat → Bool} {i k : Nat} (hk : k < m) (S : Sent m A q) (h : (ord m A)[i]? = some k) (ok : okAt m A q w i)
    (hc : ¬ most A m * hf < psum m A q w i + row (A k) (q k) (A k).up) : okAt m A q (updW w k (A k).up) (i + 1) := by
  obtain ⟨g0, g1⟩ := gone_pos (A k).up (S.pos k hk) (S.lt k hk)
  unfold okAt at ok ⊢
  rw [psum_succ h, psum_upd h (Nat.le_refl i)]
  unfold rowF
  rw [updW_same]
  rw [row_up] at hc ⊢
  grind
theorem greedy_down {m : Nat} {A : Nat → Ask} {q : Nat → Rat} {w : Nat → Bool} {i k : Nat} (hk : k < m) (S : Sent m A q) (h : (ord m A)[i]? = some k) (ok : okAt m A q w i)
    (hc : most A m * hf < psum m A q w i + row (A k) (q k) (A k).up) : okAt m A q (updW w k (!(A k).up)) (i + 1) := by
  obtain ⟨g0, g1⟩ := gone_pos (A k).up (S.pos k hk) (S.lt k hk)
  have hm := most_le A hk
  have ht := hf_twice (most A m)
  unfold okAt at ok ⊢
  rw [psum_succ h, psum_upd h (Nat.le_refl i)]
  unfold rowF
  rw [updW_same]
  rw [row_up] at hc
  rw [row_down]
  grind
theorem okAt_upd {m : Nat} {A : Nat → Ask} {q : Nat → Rat} {w : Nat → Bool} {i j k : Nat} {b : Bool} (h : (ord m A)[i]? = some k) (hj : j ≤ i) (ok : okAt m A q w j) : okAt m A q (updW w k b) j := by
  unfold okAt at ok ⊢
  rw [psum_upd h hj]
  exact ok

/-! ### bounds of sums -/
theorem row_bd {a : Ask} {q : Rat} {w : Bool} (h1 : Bd 50 a.s) (h2 : Bd 100 q) : Bd 160 (row a q w) := by
  have x : Bd 151 (a.s - q) := h1.sub h2
  have y : Bd 151 (0 - q) := (bd0.sub h2).mono (by decide)
  have z : Bd 151 (if w then a.s - q else 0 - q) := by
    cases w
    · exact y
    · exact x
  unfold row
  split
  · exact z.mono (by decide)
  · exact (bd0.sub z).mono (by decide)
theorem sumL_bd {B : Nat} {f : Nat → Rat} : ∀ {l : List Nat}, (∀ k ∈ l, Bd B (f k)) → Bd ((B + 1) * l.length + 1) (sumL l f)
  | [], _ => bd0
  | k :: l, h => by
    have ih := sumL_bd (l := l) fun j hj => h j (List.mem_cons_of_mem _ hj)
    rw [sumL_cons]
    refine ((h k (List.mem_cons_self ..)).add ih).mono ?_
    rw [List.length_cons, Nat.mul_add]
    omega

/-! ### all ways -/
def ext (w : Nat → Bool) (m : Nat) : List Bool := (List.range m).map w
def allW : Nat → List (List Bool)
  | 0 => [[]]
  | m + 1 => (allW m).map (· ++ [true]) ++ (allW m).map (· ++ [false])
theorem allW_mem (w : Nat → Bool) : ∀ m, ext w m ∈ allW m
  | 0 => List.mem_singleton.mpr rfl
  | m + 1 => by
    have ih := allW_mem w m
    have e : ext w (m + 1) = ext w m ++ [w m] := by
      unfold ext
      rw [List.range_succ, List.map_append]
      rfl
    rw [e]
    unfold allW
    cases hw : w m
    · exact List.mem_append_right _ (List.mem_map.mpr ⟨_, ih, rfl⟩)
    · exact List.mem_append_left _ (List.mem_map.mpr ⟨_, ih, rfl⟩)
theorem allW_len : ∀ {m : Nat} {v : List Bool}, v ∈ allW m → v.length = m
  | 0, v, h => by
    rw [List.mem_singleton.mp h]
    rfl
  | m + 1, v, h => by
    unfold allW at h
    rcases List.mem_append.mp h with h | h
    · obtain ⟨u, hu, rfl⟩ := List.mem_map.mp h
      rw [List.length_append, allW_len hu]
      rfl
    · obtain ⟨u, hu, rfl⟩ := List.mem_map.mp h
      rw [List.length_append, allW_len hu]
      rfl
theorem allW_count : ∀ m, (allW m).length = 2 ^ m
  | 0 => rfl
  | m + 1 => by
    unfold allW
    rw [List.length_append, List.length_map, List.length_map, allW_count m, Nat.pow_succ]
    omega
/-- a list of ways as a function -/
def fnW (v : List Bool) (k : Nat) : Bool := v.getD k false
theorem ext_fn {v : List Bool} {m : Nat} (h : v.length = m) : ext (fnW v) m = v := by
  subst h
  refine List.ext_getElem? fun i => ?_
  unfold ext fnW
  rw [List.getElem?_map]
  by_cases hi : i < v.length
  · rw [List.getElem?_range hi]
    simp [List.getD, hi]
  · rw [List.getElem?_eq_none (by rw [List.length_range]; omega), List.getElem?_eq_none (by omega)]
    rfl
theorem ext_congr {u w : Nat → Bool} {m : Nat} (h : ext u m = ext w m) : ∀ k, k < m → u k = w k := fun k hk => by
  have e := congrArg (fun l => l[k]?) h
  simp only [ext, List.getElem?_map, List.getElem?_range hk] at e
  exact Option.some.inj e
theorem due_congr {m : Nat} {A : Nat → Ask} {q : Nat → Rat} {u w : Nat → Bool} (h : ∀ k, k < m → u k = w k) (d : Due m A q u) : Due m A q w := by
  intro i hi
  have e : psum m A q w (i + 1) = psum m A q u (i + 1) := sumL_congr fun k hk => by
    unfold rowF
    rw [h k (ord_mem (List.mem_of_mem_take hk))]
  have z := d i hi
  unfold okAt at z ⊢
  rw [e]
  exact z

/-! ### the law's loop over places -/
def firstTo (A : Nat → Ask) (q : Nat → Rat) (w : Nat → Bool) (l : List Nat) (t : Nat) : Rat := sumL l fun k => if (A k).p < t then rowF A q w k else 0
theorem firstTo_succ (A : Nat → Ask) (q : Nat → Rat) (w : Nat → Bool) (l : List Nat) (t : Nat) : firstTo A q w l (t + 1) = first A q w l t := by
  unfold firstTo first
  refine sumL_congr fun k _ => ?_
  by_cases c : (A k).p ≤ t
  · rw [if_pos (by omega), if_pos c]
  · rw [if_neg (by omega), if_neg c]
theorem firstTo_zero (A : Nat → Ask) (q : Nat → Rat) (w : Nat → Bool) : ∀ l : List Nat, firstTo A q w l 0 = 0
  | [] => rfl
  | k :: l => by
    have ih := firstTo_zero A q w l
    unfold firstTo at ih ⊢
    rw [sumL_cons, ih, if_neg (by omega), Rat.add_zero]
/-- those of place t alone -/
def atP (A : Nat → Ask) (q : Nat → Rat) (w : Nat → Bool) (l : List Nat) (t : Nat) : Rat := sumL l fun k => if (A k).p = t then rowF A q w k else 0
theorem first_split (A : Nat → Ask) (q : Nat → Rat) (w : Nat → Bool) (t : Nat) : ∀ l : List Nat, first A q w l t = firstTo A q w l t + atP A q w l t
  | [] => by
    unfold first firstTo atP
    rw [sumL_nil, sumL_nil, sumL_nil]
    grind
  | k :: l => by
    have ih := first_split A q w t l
    unfold first firstTo atP at ih ⊢
    rw [sumL_cons, sumL_cons, sumL_cons, ih]
    by_cases c : (A k).p < t
    · rw [if_pos (show (A k).p ≤ t by omega), if_pos c, if_neg (show ¬ (A k).p = t by omega)]
      grind
    · by_cases d : (A k).p = t
      · rw [if_pos (show (A k).p ≤ t by omega), if_neg c, if_pos d]
        grind
      · rw [if_neg (show ¬ (A k).p ≤ t by omega), if_neg c, if_neg d]
        grind
theorem atP_snoc (A : Nat → Ask) (q : Nat → Rat) (w : Nat → Bool) (l : List Nat) (k t : Nat) : atP A q w (l ++ [k]) t = atP A q w l t + if (A k).p = t then rowF A q w k else 0 := sumL_snoc _ _ _
end K40
/-! min of a tuple of two ints; sorted of a list of pairs whose first ints differ -/
namespace K40
open PySem PySem.W L2
section
variable {X : Cx}
def rMinT (K : PySem.W.Frag) : List V → Hp → VK → Prop := fun vs H Q => ∃ (a : Addr) (i j : Int), vs = [V.ref a] ∧ SqT K H a [.int i, .int j] ∧ Q (.int (if j < i then j else i)) H
theorem cr_minT (hc : X.calm = true) (hu : X.A.units + 1 < cLine) : CallR X (.builtin "min") (rMinT X.K) := by
  intro pins s σ H vs us Q I r h
  obtain ⟨a, i, j, rfl, hs, q⟩ := h
  obtain ⟨its, rv, hl, _⟩ := I.tuple hs
  rw [Vals.ref1 r]
  obtain ⟨as, hr⟩ := Dp.readsAll I [.int i, .int j] _ its (.cons (.int i) (.cons (.int j) .nil)) rv
  refine min_tuple_data (x := .int i) (xs := [.int j]) (as := as) (vs := its.toArray) (I.ok.hd hc) (show s.heap.IsTuple a its.toArray from hl) hr ⟨?_, ?_⟩ ?_ fun k v h' tk bs hi rd hk => ?_
  · intro x hx y hy
    simp only [List.mem_cons, List.not_mem_nil, or_false] at hx hy
    rcases hx with rfl | rfl <;> rcases hy with rfl | rfl <;> simp [alike]
  · intro x hx
    simp only [List.mem_cons, List.not_mem_nil, or_false] at hx
    rcases hx with rfl | rfl <;> simp
  · simp [PyData.depthAll, PyData.depth]
    omega
  · have e : minD (.int i) [.int j] = .int (if j < i then j else i) := by
      unfold minD
      simp only [List.foldl_cons, List.foldl_nil, dataLt_int]
      by_cases c : j < i <;> simp [c]
    rw [e] at rd
    cases rd
    exact ⟨.int _, H, I.kept hk, ⟨_, rfl⟩, q⟩
def rSortX (K : PySem.W.Frag) : List V → Hp → VK → Prop := fun vs H Q => ∃ (a : Addr) (l : List Nat) (f : Nat → Addr) (x : Nat → Int) (d : Nat → PyData), vs = [V.ref a] ∧ SqL K H a (l.map fun k => V.ref (f k)) ∧
  (∀ k ∈ l, ∃ v, SqT K H (f k) [.int (x k), v] ∧ Dp K H v (d k)) ∧ (∀ k j, alike (d k) (d j) = true) ∧ (∀ k, (d k).depth ≤ 1) ∧ (∀ k ∈ l, ∀ j ∈ l, x k = x j → k = j) ∧
  ∀ p, H p = none → Q (.ref p) (upd H p (.lst ((l.mergeSort fun k j => decide (x k ≤ x j)).map fun k => V.ref (f k))))
theorem each_refs : ∀ {l : List Nat} {f : Nat → Addr} {its : List Value}, Vals (l.map fun k => V.ref (f k)) its → PySem.W.EachIs (fun v k => v = Value.ref (f k)) its l
  | [], _, _, r => by
    cases r
    exact .nil
  | k :: l, f, _, r => by
    cases r with
    | cons r1 r2 => exact .cons r1 (each_refs r2)
theorem vals_each : ∀ {l : List Nat} {f : Nat → Addr} {out : List Value}, PySem.W.EachIs (fun v k => v = Value.ref (f k)) out l → Vals (l.map fun k => V.ref (f k)) out
  | [], _, _, .nil => .nil
  | k :: l, f, _, .cons h t => .cons h (vals_each t)
theorem each_with {α β : Type} {R S : α → β → Prop} : ∀ {as : List α} {bs : List β}, PySem.W.EachIs R as bs → (∀ a b, b ∈ bs → R a b → S a b) → PySem.W.EachIs S as bs
  | _, _, .nil, _ => .nil
  | _, _, .cons h t, f => .cons (f _ _ (List.mem_cons_self ..) h) (each_with t fun a b hb r => f a b (List.mem_cons_of_mem _ hb) r)
theorem le_is {x : Nat → Int} {d : Nat → PyData} {l : List Nat} (ha : ∀ k j, alike (d k) (d j) = true) (hi : ∀ k ∈ l, ∀ j ∈ l, x k = x j → k = j) :
    ∀ k ∈ l, ∀ j ∈ l, PySem.W.dataLe false (fun k : Nat => PyData.tuple [.int (x k), d k]) k j = decide (x k ≤ x j) := by
  intro k hk j hj
  rw [PySem.W.dataLe_eq]
  show (!dataLt (.tuple [.int (x j), d j]) (.tuple [.int (x k), d k])) = decide (x k ≤ x j)
  rw [PySem.W.dataLt_pair (by simp [alike]) (ha j k), dataLt_int]
  by_cases e : x k = x j
  · have e2 := hi k hk j hj e
    subst e2
    have e3 : PyData.eqv (.int (x k)) (.int (x k)) = true := by simp [PyData.eqv]
    rw [if_pos e3, if_pos (eqv_refl_alike _ (ha k k))]
    simp
  · have e3 : PyData.eqv (.int (x j)) (.int (x k)) = false := by
      simp only [PyData.eqv]
      exact beq_eq_false_iff_ne.mpr fun z => e z.symm
    rw [e3, if_neg (by decide)]
    by_cases c : x j < x k
    · rw [decide_eq_true c, decide_eq_false (by omega)]
      rfl
    · rw [decide_eq_false c, decide_eq_true (by omega)]
      rfl
theorem cr_sortX (hu : X.A.units + 5 < cLine) : CallR X (.builtin "sorted") (rSortX X.K) := by
  intro pins s σ H vs us Q I r h
  obtain ⟨a, l, f, x, d, rfl, hs, hx, hal, hd, hi, q⟩ := h
  obtain ⟨its, rv, hl, hz⟩ := I.list hs
  rw [Vals.ref1 r]
  have e0 := each_refs rv
  rw [List.length_map] at hz
  refine PySem.W.sorted_data (vs := its) (bs := l) (enc := fun k : Nat => PyData.tuple [.int (x k), d k]) (R := fun v k => v = Value.ref (f k)) hl.isList e0 ?_ ?_ ?_ hz ?_ fun out ho hE => ?_
  · refine each_with e0 fun v k hk e => ?_
    subst e
    obtain ⟨y, ht, hy⟩ := hx k hk
    exact Dp.reads I (.tuple [.int (x k), d k]) (.ref (f k)) _ (.tup ht (.cons (.int _) (.cons hy .nil))) rfl
  · exact PySem.W.AllAlike.of fun k j => by simp [alike, alikeAll, hal k j]
  · exact PySem.W.Sortable.tuples fun k => ⟨_, _, rfl⟩
  · intro k hk
    have h1 := hd k
    simp only [PyData.depth, PyData.depthAll]
    omega
  · rw [PySem.W.sort_congr (le_is hal hi)] at hE
    obtain ⟨ep, he'⟩ := PyProof.Rows.sortedAll_at s.heap its out.toArray
    have hlen : ((l.mergeSort fun k j => decide (x k ≤ x j)).map fun k => V.ref (f k)).length ≤ sizeLine := by
      rw [List.length_map, List.length_mergeSort]
      exact hz
    refine ⟨.ref _, upd H (s.heap.objs.size + 1) (.lst ((l.mergeSort fun k j => decide (x k ≤ x j)).map fun k => V.ref (f k))), I.laid (t' := s.toks) (fun _ _ => PyProof.Rows.sortedAll_old) (Nat.le_succ _) ⟨hlen, out, ep, vals_each hE, he'⟩, rfl, q _ (I.hok.fresh (Nat.le_succ _))⟩
end
end K40
namespace K40
open PySem PyProof.Rows L2
/-! ### the text by places -/
def top (i : Nat) : Stmt := PySem.Challenge.pw_ringloads_k40_whole_chains_rounded.main.body.getD i (.Pass ⟨0, 0, 0, 0⟩)
abbrev FnP (K : PySem.W.Frag) (x : Str) (st : Stmt) (f : Addr) (fd : FuncData) : Prop := FunD K x x (defArgs st) (defBody st) (defScope st) [] [] f fd
/-- the def x of the text stands, as the i-th of the top -/
def At (K : PySem.W.Frag) (mg : Str → Option Value) (x : Str) (i : Nat) : Prop := ∃ f fd, FnP K x (top i) f fd ∧ mg x = some (.ref f)
/-- the def x keeps its promise -/
def Ok (P : Program) (w : World) (K : PySem.W.Frag) (mg : Str → Option Value) (base : Heap) (k : Nat) (x : Str) (ps : List Str) (sp : Sp) : Prop :=
  ∃ f fd, FnOk P w K mg base CX0 k f fd ps sp ∧ mg x = some (.ref f) ∧ PySem.W.keepIn K (.ref f) = true ∧ Binds K fd ps []
section
variable {P : Program} {w : World} {K : PySem.W.Frag} {mg : Str → Option Value} {base : Heap}
theorem mk_ok {x : Str} {i k : Nat} {N ps : List Str} {sp : Sp} (T : At K mg x i) (S : FnScope N ps (defScope (top i))) (len : ∀ vs H Q E, sp vs H Q E → vs.length = ps.length)
    (b : ∀ (kV doc pm : Value) (an : Option Addr) (cdv ct : Value) (us : List Value), us.length = ps.length → bindArgs (PySem.W.fnOf x x (defArgs (top i)) (defBody (top i)) (defScope (top i)) .none kV doc pm an cdv ct) ⟨us, []⟩ = pure (ps.zip us))
    (hbody : ∀ (f : Addr) (cdv : Value) (A : Around) (outer : List Env) (s : Shared) (H : Hp) (vs : List V) (Q : VK) (E : XK), Room k (A.deeper (envOfC x (defScope (top i)) s.heap.objs.size f cdv)) → sp vs H Q E →
      ∃ t, PSs (cxOf CX0 P w K mg base N x (defScope (top i)) f cdv A outer s H E).nox (defBody (top i)) t ∧ t { nx := fun _ H' => Q .non H', rt := Q } (start N vs) H) :
    Ok P w K mg base (k + 1) x ps sp := by
  obtain ⟨f, fd, F, g⟩ := T
  refine ⟨f, fd, F.ok S len (fun cdv A outer s H vs Q E hr h => ?_), g, F.kp, FunD.bindsN F b⟩
  obtain ⟨t, h1, h2⟩ := hbody f cdv A outer s H vs Q E hr h
  exact ⟨t, PSs.nox h1, h2⟩
end
theorem pe_def {X : Cx} {k : Nat} {x : Str} {ps : List Str} {sp : Sp} {e : Expr} {es : List Expr} {t : TA} {p pos : Pos} (D : Ok X.prog X.w X.K X.mg X.base k x ps sp) (hr : Room k X.A) (hg : Gl X x) (h : PA X (e :: es) t)
    (hdb : (x == ("__debug__" : Str)) = false := by decide) (he : starEach (e :: es) X.env = (false, eval e X.env) :: starEach es X.env := by rfl) (hpl : (backTo pos (starEach es X.env)).any (·.1) = false := by rfl) :
    PE X (.Call (.Name x p) (e :: es) [] pos) (tCall sp [] E0 t) := by
  obtain ⟨f, fd, F, g, kp, b⟩ := D
  exact pe_call F hr hg g kp b .nil pass0 h hdb he hpl
/-! ### heaps -/
theorem same_new {H : Hp} {p : Addr} {o : HO} (h : H p = none) : Same H (upd H p o) := fun b x e => by
  rw [upd_ne (ne_of_none e h)]
  exact e
theorem same_mut {H H' : Hp} {p : Addr} {o : HO} (s : Same H H') (h : H p = none) : Same H (upd H' p o) := fun b x e => by
  rw [upd_ne (ne_of_none e h)]
  exact s b x e
theorem same_tup {K : PySem.W.Frag} {H H' : Hp} {a : Addr} {xs : List V} (e : Same H H') (h : SqT K H a xs) : SqT K H' a xs := by
  rcases h with (h | ⟨o, h⟩) | h
  · exact .inl (.inl (e _ _ h))
  · exact .inl (.inr ⟨o, e _ _ h⟩)
  · exact .inr h
theorem tup_new {K : PySem.W.Frag} {H : Hp} {p : Addr} {xs : List V} : SqT K (upd H p (.tup xs)) p xs := .inl (.inl upd_same)
theorem lst_new {K : PySem.W.Frag} {H : Hp} {p : Addr} {xs : List V} : SqL K (upd H p (.lst xs)) p xs := .inl (.inl upd_same)
/-! ### fractions -/
/-- the fraction q stands at a -/
def FR (K : PySem.W.Frag) (H : Hp) (a : Addr) (q : Rat) : Prop := SqT K H a [.int q.num, .int (q.den : Int)]
theorem FR.same {K : PySem.W.Frag} {H H' : Hp} {a : Addr} {q : Rat} (h : FR K H a q) (e : Same H H') : FR K H' a q := same_tup e h
theorem fr_mk {K : PySem.W.Frag} {H : Hp} {p : Addr} {t : Int} {b : Nat} (hb : 0 < b) (h : H p = some (.tup [.int (t / (Int.gcd t (b : Int) : Int)), .int ((b : Int) / (Int.gcd t (b : Int) : Int))])) : FR K H p (mkRat t b) := by
  have e1 : (mkRat t b).num = t / (Int.gcd t (b : Int) : Int) := by
    rw [Rat.num_mkRat, if_neg (by omega)]
    show t / ((Nat.gcd b t.natAbs : Nat) : Int) = t / ((Nat.gcd t.natAbs b : Nat) : Int)
    rw [Nat.gcd_comm]
  have e2 : ((mkRat t b).den : Int) = (b : Int) / (Int.gcd t (b : Int) : Int) := by
    rw [Rat.den_mkRat, if_neg (by omega)]
    show ((b / Nat.gcd b t.natAbs : Nat) : Int) = (b : Int) / ((Nat.gcd t.natAbs b : Nat) : Int)
    rw [Nat.gcd_comm, Int.natCast_ediv]
  refine .inl (.inl ?_)
  rw [h, e1, e2]
theorem r_num {K : PySem.W.Frag} {σ : L2.St} {H : Hp} {i : Nat} {a : Addr} {q : Rat} {Q : VK} (hσ : σ[i]? = some (some (.ref a))) (h : FR K H a q) (k : Q (.int q.num) H) : tOp (rIxT K) (tVar i) (tC (.int 0)) σ H Q :=
  ⟨.ref a, hσ, a, _, 0, _, rfl, rfl, h, rfl, k⟩
theorem r_den {K : PySem.W.Frag} {σ : L2.St} {H : Hp} {i : Nat} {a : Addr} {q : Rat} {Q : VK} (hσ : σ[i]? = some (some (.ref a))) (h : FR K H a q) (k : Q (.int (q.den : Int)) H) : tOp (rIxT K) (tVar i) (tC (.int 1)) σ H Q :=
  ⟨.ref a, hσ, a, _, 1, _, rfl, rfl, h, rfl, k⟩
/-! ### what the top has written -/
structure Top (K : PySem.W.Frag) (mg : Str → Option Value) : Prop where
  common : At K mg "common" 5
  lowered : At K mg "lowered" 9
  plus : At K mg "plus" 10
  minus : At K mg "minus" 11
  times : At K mg "times" 12
  under : At K mg "under" 13
  greater : At K mg "greater" 14
  do_cross : At K mg "do_cross" 17
  is_parted : At K mg "is_parted" 18
  parted_in : At K mg "parted_in" 19
  all_cross : At K mg "all_cross" 20
  other_way : At K mg "other_way" 24
  is_over : At K mg "is_over" 26
  loads_of : At K mg "loads_of" 28
  are_ways : At K mg "are_ways" 30
  sent_by : At K mg "sent_by" 31
  gone_by : At K mg "gone_by" 36
  slid_by : At K mg "slid_by" 42
  next_slide : At K mg "next_slide" 44
  slides_for : At K mg "slides_for" 45
  rising_way : At K mg "rising_way" 47
  gain_by : At K mg "gain_by" 48
  in_order : At K mg "in_order" 49
  half : At K mg "half_of_greatest" 50
  goes_whole : At K mg "goes_whole" 51
  are_rounded : At K mg "are_rounded" 52
  behind : At K mg "behind_or_none" 53
  lets : At K mg "lets_rounding" 54
  whole_ways : At K mg "whole_ways" 55
  rounding_of : At K mg "rounding_of" 56
  gains_of : At K mg "gains_of" 58
  l_begun : At K mg "_law_begun" 60
  l_take : At K mg "_law_take" 61
  l_low : At K mg "_law_low" 62
  l_amount : At K mg "_law_amount" 63
  l_plus : At K mg "_law_plus" 64
  l_minus : At K mg "_law_minus" 65
  l_under : At K mg "_law_under" 66
  l_chain : At K mg "_law_chain" 67
  l_sums : At K mg "_law_sums" 68
  l_bounded : At K mg "_law_bounded" 69
  l_gains : At K mg "_law_gains_right" 70
  l_all : At K mg "_law_all_ways" 71
  l_right : At K mg "_law_right" 72
  law : At K mg "law" 73
  on : ∃ t, mg "ON" = some (.str "on" t)
  back : ∃ t, mg "BACK" = some (.str "back" t)
  nought : ∃ a, mg "NOUGHT" = some (.ref a) ∧ ∀ H : Hp, SqT K H a [.int 0, .int 1]
  abs : mg "abs" = none
  len : mg "len" = none
  range : mg "range" = none
  min : mg "min" = none
  max : mg "max" = none
  enumerate : mg "enumerate" = none
  zip : mg "zip" = none
  isinstance : mg "isinstance" = none
  list : mg "list" = none
  tuple : mg "tuple" = none
  str : mg "str" = none
  int : mg "int" = none
  all : mg "all" = none
  sorted : mg "sorted" = none
/-! ### common, lowered -/
section
variable {P : Program} {w : World} {K : PySem.W.Frag} {mg : Str → Option Value} {base : Heap}
def spCommon : Sp := fun vs H Q _ => ∃ i j : Int, vs = [.int i, .int j] ∧ 0 ≤ j ∧ Q (.int (Int.gcd i j : Int)) H
theorem scCommon : FnScope ["one", "other"] ["one", "other"] (defScope (top 5)) := ⟨rfl, rfl, rfl, by decide +kernel, rfl, by decide +kernel, by decide +kernel⟩
theorem gcd_step {a b g : Int} (hb : 0 ≤ b) (h : (Int.gcd a b : Int) = g) : (Int.gcd b (a.fmod b) : Int) = g := by
  rw [Int.fmod_eq_emod_of_nonneg a hb, ← h, Int.gcd_comm]
  refine congrArg Nat.cast (Nat.dvd_antisymm (Int.dvd_gcd ?_ (Int.gcd_dvd_right _ _)) (Int.dvd_gcd ?_ (Int.gcd_dvd_right _ _)))
  · have e := Int.mul_ediv_add_emod a b
    have h1 : ((Int.gcd (a % b) b : Nat) : Int) ∣ b * (a / b) + a % b := Int.dvd_add (Int.dvd_trans (Int.gcd_dvd_right _ _) (Int.dvd_mul_right _ _)) (Int.gcd_dvd_left _ _)
    rw [e] at h1
    exact h1
  · rw [Int.emod_def]
    exact Int.dvd_sub (Int.gcd_dvd_left _ _) (Int.dvd_trans (Int.gcd_dvd_right _ _) (Int.dvd_mul_right _ _))
theorem d_common (T : Top K mg) : Ok P w K mg base 1 "common" ["one", "other"] spCommon := by
  refine mk_ok (k := 0) T.common scCommon (fun vs H Q E h => ?_) (fun _ _ _ _ _ _ us hl => match us, hl with | [_, _], _ => rfl) (fun f cdv A outer s H vs Q E hr h => ?_)
  · obtain ⟨i, j, rfl, _⟩ := h
    rfl
  · obtain ⟨i, j, rfl, hj, k⟩ := h
    refine ⟨_, pss_cons (ps_while PassesOwn.never (pt_cmpR op_ne (pv 1) pe_int (nomark _))
        (pss_one (ps_par (i := 0) (j := 1) (by rfl) scCommon.nd rfl rfl (by decide) rfl rfl (pa_cons (pv 1) (pa_cons (pe_op op_modN (pv 0) (pv 1)) pa_nil)) (by rfl))))
      (pss_one (ps_ret (pe_callB call_abs (by rfl) T.abs (by decide +kernel) (pa_cons (pv 0) pa_nil)))), ?_⟩
    refine ⟨fun m σ H' => ∃ a b : Int, σ = [some (.int a), some (.int b)] ∧ H' = H ∧ 0 ≤ b ∧ m = b.toNat ∧ (Int.gcd a b : Int) = Int.gcd i j, ⟨_, i, j, rfl, rfl, hj, rfl, rfl⟩, ?_⟩
    rintro m σ H' ⟨a, b, rfl, rfl, hb, rfl, hg⟩
    refine ⟨_, rfl, rfl, _, rfl, ?_⟩
    by_cases e : b = 0
    · subst e
      refine iteF ?_
      refine ⟨_, rfl, _, rfl, ?_⟩
      have e2 : (if a < 0 then -a else a) = (Int.gcd i j : Int) := by
        rw [← hg, Int.gcd_zero_right]
        split <;> omega
      rw [e2]
      exact k
    · have e1 : decide (V.int b = V.int 0) = false := decide_eq_false fun z => e (V.int.inj z)
      rw [e1]
      refine iteT ?_
      refine ⟨fun σ' H'' => ∃ a' b' : Int, σ' = [some (.int a'), some (.int b')] ∧ H'' = H' ∧ 0 ≤ b' ∧ b' < b ∧ (Int.gcd a' b' : Int) = Int.gcd i j, ?_, ?_⟩
      · rintro σ' H'' ⟨a', b', rfl, rfl, h1, h2, h3⟩
        exact ⟨_, by omega, a', b', rfl, rfl, h1, rfl, h3⟩
      · refine ⟨_, rfl, _, rfl, _, rfl, a, b, rfl, rfl, e, _, _, rfl, b, a.fmod b, rfl, rfl, ?_, ?_, gcd_step hb hg⟩
        · rw [Int.fmod_eq_emod_of_nonneg a hb]
          exact Int.emod_nonneg a e
        · rw [Int.fmod_eq_emod_of_nonneg a hb]
          exact Int.emod_lt_of_pos a (by omega)
def spLow (K : PySem.W.Frag) : Sp := fun vs H Q _ => ∃ (t : Int) (b : Nat), vs = [.int t, .int (b : Int)] ∧ 0 < b ∧ b < 2 ^ 8000 ∧ ∀ (H' : Hp) (p : Addr), Same H H' → FR K H' p (mkRat t b) → Q (.ref p) H'
theorem scLow : FnScope ["top", "bottom", "share"] ["top", "bottom"] (defScope (top 9)) := ⟨rfl, rfl, rfl, by decide +kernel, rfl, by decide +kernel, by decide +kernel⟩
theorem gcd_pos {t : Int} {b : Nat} (hb : 0 < b) : 0 < (Int.gcd t (b : Int) : Int) := by
  have h : 0 < Int.gcd t (b : Int) := Int.gcd_pos_of_ne_zero_right t (by omega)
  omega
theorem gcd_small {t : Int} {b n : Nat} (hb : 0 < b) (h : b < 2 ^ n) : (Int.gcd t (b : Int) : Int).natAbs < 2 ^ n := by
  have h1 : Int.gcd t (b : Int) ≤ b := Nat.le_of_dvd hb (Nat.gcd_dvd_right _ _)
  exact Nat.lt_of_le_of_lt h1 h
theorem d_lowered (T : Top K mg) : Ok P w K mg base 2 "lowered" ["top", "bottom"] (spLow K) := by
  have D1 : Ok P w K mg base 1 "common" ["one", "other"] spCommon := d_common T
  refine mk_ok (k := 1) T.lowered scLow (fun vs H Q E h => ?_) (fun _ _ _ _ _ _ us hl => match us, hl with | [_, _], _ => rfl) (fun f cdv A outer s H vs Q E hr h => ?_)
  · obtain ⟨i, j, rfl, _⟩ := h
    rfl
  · obtain ⟨t, b, rfl, hb, hz, k⟩ := h
    refine ⟨_, pss_cons (ps_set (i := 2) scLow.nd rfl (.inl rfl) (pe_def D1 hr (by rfl) (pa_cons (pv 0) (pa_cons (pv 1) pa_nil))))
      (pss_cons (ps_if (pt_cmpR op_lt (pv 1) pe_int (nomark _)) (pss_one ps_never) pss_nil)
      (pss_one (ps_ret (pe_tup (pa_cons (pe_op op_fdivW (pv 0) (pv 2)) (pa_cons (pe_op op_fdivW (pv 1) (pv 2)) pa_nil)))))), ?_⟩
    have hg := gcd_pos (t := t) hb
    have hs := gcd_small (t := t) hb hz
    have hd : CDivW t (Int.gcd t (b : Int) : Int) := wide_div hg hs (by decide) (by decide)
    refine ⟨_, rfl, _, rfl, t, (b : Int), rfl, by omega, ?_⟩
    refine ⟨_, rfl, _, _, rfl, rfl, _, rfl, ?_⟩
    rw [decide_eq_false (show ¬ (b : Int) < 0 by omega)]
    refine iteF ?_
    refine ⟨_, rfl, _, rfl, _, _, rfl, rfl, hd, _, rfl, _, rfl, _, _, rfl, rfl, hd, (by show 2 ≤ sizeLine; decide), fun p hp => ?_⟩
    exact k _ p (same_new hp) (fr_mk hb upd_same)

/-! ### plus, minus, times, under, greater -/
theorem bd_prod {n m : Nat} {q r : Rat} (h : Bd n q) (k : Bd m r) : q.den * r.den < 2 ^ (n + m) := mul_lt_two h.2 k.2
theorem cmul_nd {n m : Nat} {q r : Rat} (h : Bd n q) (k : Bd m r) (z : n + m + 2 ≤ 1000000) : CMulW q.num (r.den : Int) := wide_mul (a := n + 1) (b := m + 1) (h.mono (Nat.le_succ n)).1 (by rw [Int.natAbs_natCast]; exact (k.mono (Nat.le_succ m)).2) (by omega) (by omega) (by omega)
theorem cmul_nn {n m : Nat} {q r : Rat} (h : Bd n q) (k : Bd m r) (z : n + m + 2 ≤ 1000000) : CMulW q.num r.num := wide_mul (a := n + 1) (b := m + 1) (h.mono (Nat.le_succ n)).1 (k.mono (Nat.le_succ m)).1 (by omega) (by omega) (by omega)
theorem cmul_dd {n m : Nat} {q r : Rat} (h : Bd n q) (k : Bd m r) (z : n + m + 2 ≤ 1000000) : CMulW (q.den : Int) (r.den : Int) :=
  wide_mul (a := n + 1) (b := m + 1) (by rw [Int.natAbs_natCast]; exact (h.mono (Nat.le_succ n)).2) (by rw [Int.natAbs_natCast]; exact (k.mono (Nat.le_succ m)).2) (by omega) (by omega) (by omega)
def spBin (K : PySem.W.Frag) (g : Rat → Rat → Rat) : Sp := fun vs H Q _ => ∃ (a b : Addr) (q r : Rat), vs = [.ref a, .ref b] ∧ FR K H a q ∧ FR K H b r ∧ Bd 3900 q ∧ Bd 3900 r ∧ ∀ (H' : Hp) (p : Addr), Same H H' → FR K H' p (g q r) → Q (.ref p) H'
def spUnd (K : PySem.W.Frag) : Sp := fun vs H Q _ => ∃ (a b : Addr) (q r : Rat), vs = [.ref a, .ref b] ∧ FR K H a q ∧ FR K H b r ∧ Bd 3900 q ∧ Bd 3900 r ∧ Q (.bl (decide (q < r))) H
theorem lt_dec (q r : Rat) : decide (q.num * (r.den : Int) < r.num * (q.den : Int)) = decide (q < r) := decide_eq_decide.mpr (Rat.lt_iff q r).symm

theorem scplus : FnScope ["one", "other"] ["one", "other"] (defScope (top 10)) := ⟨rfl, rfl, rfl, by decide +kernel, rfl, by decide +kernel, by decide +kernel⟩
theorem d_plus (T : Top K mg) : Ok P w K mg base 3 "plus" ["one", "other"] (spBin K fun q r => q + r) := by
  have D1 : Ok P w K mg base 2 "lowered" ["top", "bottom"] (spLow K) := d_lowered T
  refine mk_ok (k := 2) T.plus scplus (fun vs H Q E h => ?_) (fun _ _ _ _ _ _ us hl => match us, hl with | [_, _], _ => rfl) (fun f cdv A outer s H vs Q E hr h => ?_)
  · obtain ⟨_, _, _, _, rfl, _⟩ := h
    rfl
  · obtain ⟨a, b, q, r, rfl, ha, hb, za, zb, k⟩ := h
    refine ⟨_, pss_one (ps_ret (pe_def D1 hr (by rfl) (pa_cons (pe_op op_add (pe_op op_mulW (pe_ix ix_tup (pv 0) pe_int (fun _ _ => rfl)) (pe_ix ix_tup (pv 1) pe_int (fun _ _ => rfl))) (pe_op op_mulW (pe_ix ix_tup (pv 1) pe_int (fun _ _ => rfl)) (pe_ix ix_tup (pv 0) pe_int (fun _ _ => rfl)))) (pa_cons (pe_op op_mulW (pe_ix ix_tup (pv 0) pe_int (fun _ _ => rfl)) (pe_ix ix_tup (pv 1) pe_int (fun _ _ => rfl))) pa_nil)))), ?_⟩
    refine r_num rfl ha (r_den rfl hb ⟨_, _, rfl, rfl, cmul_nd za zb (by decide), r_num rfl hb (r_den rfl ha ⟨_, _, rfl, rfl, cmul_nd zb za (by decide), _, _, rfl, rfl, ?_⟩)⟩)
    refine r_den rfl ha (r_den rfl hb ⟨_, _, rfl, rfl, cmul_dd za zb (by decide), ?_⟩)
    refine ⟨_, q.den * r.den, congrArg (fun z => [V.int _, V.int z]) (Int.natCast_mul _ _).symm, Nat.mul_pos q.den_pos r.den_pos, Nat.lt_of_lt_of_le (bd_prod za zb) (Nat.pow_le_pow_right (by decide) (by decide)), fun H' p hs hp => ?_⟩
    rw [← Rat.add_def'] at hp
    exact k H' p hs hp

theorem scminus : FnScope ["one", "other"] ["one", "other"] (defScope (top 11)) := ⟨rfl, rfl, rfl, by decide +kernel, rfl, by decide +kernel, by decide +kernel⟩
theorem d_minus (T : Top K mg) : Ok P w K mg base 3 "minus" ["one", "other"] (spBin K fun q r => q - r) := by
  have D1 : Ok P w K mg base 2 "lowered" ["top", "bottom"] (spLow K) := d_lowered T
  refine mk_ok (k := 2) T.minus scminus (fun vs H Q E h => ?_) (fun _ _ _ _ _ _ us hl => match us, hl with | [_, _], _ => rfl) (fun f cdv A outer s H vs Q E hr h => ?_)
  · obtain ⟨_, _, _, _, rfl, _⟩ := h
    rfl
  · obtain ⟨a, b, q, r, rfl, ha, hb, za, zb, k⟩ := h
    refine ⟨_, pss_one (ps_ret (pe_def D1 hr (by rfl) (pa_cons (pe_op op_sub (pe_op op_mulW (pe_ix ix_tup (pv 0) pe_int (fun _ _ => rfl)) (pe_ix ix_tup (pv 1) pe_int (fun _ _ => rfl))) (pe_op op_mulW (pe_ix ix_tup (pv 1) pe_int (fun _ _ => rfl)) (pe_ix ix_tup (pv 0) pe_int (fun _ _ => rfl)))) (pa_cons (pe_op op_mulW (pe_ix ix_tup (pv 0) pe_int (fun _ _ => rfl)) (pe_ix ix_tup (pv 1) pe_int (fun _ _ => rfl))) pa_nil)))), ?_⟩
    refine r_num rfl ha (r_den rfl hb ⟨_, _, rfl, rfl, cmul_nd za zb (by decide), r_num rfl hb (r_den rfl ha ⟨_, _, rfl, rfl, cmul_nd zb za (by decide), _, _, rfl, rfl, ?_⟩)⟩)
    refine r_den rfl ha (r_den rfl hb ⟨_, _, rfl, rfl, cmul_dd za zb (by decide), ?_⟩)
    refine ⟨_, q.den * r.den, congrArg (fun z => [V.int _, V.int z]) (Int.natCast_mul _ _).symm, Nat.mul_pos q.den_pos r.den_pos, Nat.lt_of_lt_of_le (bd_prod za zb) (Nat.pow_le_pow_right (by decide) (by decide)), fun H' p hs hp => ?_⟩
    rw [← Rat.sub_def'] at hp
    exact k H' p hs hp

theorem sctimes : FnScope ["one", "other"] ["one", "other"] (defScope (top 12)) := ⟨rfl, rfl, rfl, by decide +kernel, rfl, by decide +kernel, by decide +kernel⟩
theorem d_times (T : Top K mg) : Ok P w K mg base 3 "times" ["one", "other"] (spBin K fun q r => q * r) := by
  have D1 : Ok P w K mg base 2 "lowered" ["top", "bottom"] (spLow K) := d_lowered T
  refine mk_ok (k := 2) T.times sctimes (fun vs H Q E h => ?_) (fun _ _ _ _ _ _ us hl => match us, hl with | [_, _], _ => rfl) (fun f cdv A outer s H vs Q E hr h => ?_)
  · obtain ⟨_, _, _, _, rfl, _⟩ := h
    rfl
  · obtain ⟨a, b, q, r, rfl, ha, hb, za, zb, k⟩ := h
    refine ⟨_, pss_one (ps_ret (pe_def D1 hr (by rfl) (pa_cons (pe_op op_mulW (pe_ix ix_tup (pv 0) pe_int (fun _ _ => rfl)) (pe_ix ix_tup (pv 1) pe_int (fun _ _ => rfl))) (pa_cons (pe_op op_mulW (pe_ix ix_tup (pv 0) pe_int (fun _ _ => rfl)) (pe_ix ix_tup (pv 1) pe_int (fun _ _ => rfl))) pa_nil)))), ?_⟩
    refine r_num rfl ha (r_num rfl hb ⟨_, _, rfl, rfl, cmul_nn za zb (by decide), ?_⟩)
    refine r_den rfl ha (r_den rfl hb ⟨_, _, rfl, rfl, cmul_dd za zb (by decide), ?_⟩)
    refine ⟨_, q.den * r.den, congrArg (fun z => [V.int _, V.int z]) (Int.natCast_mul _ _).symm, Nat.mul_pos q.den_pos r.den_pos, Nat.lt_of_lt_of_le (bd_prod za zb) (Nat.pow_le_pow_right (by decide) (by decide)), fun H' p hs hp => ?_⟩
    rw [← Rat.mul_def'] at hp
    exact k H' p hs hp

theorem scunder : FnScope ["one", "other"] ["one", "other"] (defScope (top 13)) := ⟨rfl, rfl, rfl, by decide +kernel, rfl, by decide +kernel, by decide +kernel⟩
theorem d_under (T : Top K mg) : Ok P w K mg base 1 "under" ["one", "other"] (spUnd K) := by
  refine mk_ok (k := 0) T.under scunder (fun vs H Q E h => ?_) (fun _ _ _ _ _ _ us hl => match us, hl with | [_, _], _ => rfl) (fun f cdv A outer s H vs Q E hr h => ?_)
  · obtain ⟨_, _, _, _, rfl, _⟩ := h
    rfl
  · obtain ⟨a, b, q, r, rfl, ha, hb, za, zb, k⟩ := h
    refine ⟨_, pss_one (ps_ret (pe_cmpR op_lt (pe_op op_mulW (pe_ix ix_tup (pv 0) pe_int (fun _ _ => rfl)) (pe_ix ix_tup (pv 1) pe_int (fun _ _ => rfl))) (pe_op op_mulW (pe_ix ix_tup (pv 1) pe_int (fun _ _ => rfl)) (pe_ix ix_tup (pv 0) pe_int (fun _ _ => rfl))) (nomark _))), ?_⟩
    refine r_num rfl ha (r_den rfl hb ⟨_, _, rfl, rfl, cmul_nd za zb (by decide), r_num rfl hb (r_den rfl ha ⟨_, _, rfl, rfl, cmul_nd zb za (by decide), _, _, rfl, rfl, ?_⟩)⟩)
    show Q (V.bl (decide (q.num * (r.den : Int) < r.num * (q.den : Int)))) H
    rw [lt_dec]
    exact k

def spGreat (K : PySem.W.Frag) : Sp := fun vs H Q _ => ∃ (a b : Addr) (q r : Rat), vs = [.ref a, .ref b] ∧ FR K H a q ∧ FR K H b r ∧ Bd 3900 q ∧ Bd 3900 r ∧ ∀ p : Addr, FR K H p (if q < r then r else q) → Q (.ref p) H
theorem scGreat : FnScope ["one", "other"] ["one", "other"] (defScope (top 14)) := ⟨rfl, rfl, rfl, by decide +kernel, rfl, by decide +kernel, by decide +kernel⟩
theorem d_greater (T : Top K mg) : Ok P w K mg base 2 "greater" ["one", "other"] (spGreat K) := by
  have D1 : Ok P w K mg base 1 "under" ["one", "other"] (spUnd K) := d_under T
  refine mk_ok (k := 1) T.greater scGreat (fun vs H Q E h => ?_) (fun _ _ _ _ _ _ us hl => match us, hl with | [_, _], _ => rfl) (fun f cdv A outer s H vs Q E hr h => ?_)
  · obtain ⟨_, _, _, _, rfl, _⟩ := h
    rfl
  · obtain ⟨a, b, q, r, rfl, ha, hb, za, zb, k⟩ := h
    refine ⟨_, pss_one (ps_ret (pe_ifExp (pt_val (pe_def D1 hr (by rfl) (pa_cons (pv 0) (pa_cons (pv 1) pa_nil)))) (pv 1) (pv 0))), ?_⟩
    refine ⟨_, rfl, _, rfl, a, b, q, r, rfl, ha, hb, za, zb, _, rfl, ?_⟩
    by_cases c : q < r
    · rw [decide_eq_true c]
      exact iteT ⟨_, rfl, k b (by rw [if_pos c]; exact hb)⟩
    · rw [decide_eq_false c]
      exact iteF ⟨_, rfl, k a (by rw [if_neg c]; exact ha)⟩
/-! ### the law's own -/
theorem scL_low : FnScope ["_law_top", "_law_bottom", "_law_one", "_law_share"] ["_law_top", "_law_bottom"] (defScope (top 62)) := ⟨rfl, rfl, rfl, by decide +kernel, rfl, by decide +kernel, by decide +kernel⟩
theorem abs_int (t : Int) : (if t < 0 then -t else t) = (t.natAbs : Int) := by
  split <;> omega
theorem d_llow (T : Top K mg) : Ok P w K mg base 1 "_law_low" ["_law_top", "_law_bottom"] (spLow K) := by
  refine mk_ok (k := 0) T.l_low scL_low (fun vs H Q E h => ?_) (fun _ _ _ _ _ _ us hl => match us, hl with | [_, _], _ => rfl) (fun f cdv A outer s H vs Q E hr h => ?_)
  · obtain ⟨i, j, rfl, _⟩ := h
    rfl
  · obtain ⟨t, b, rfl, hb, hz, k⟩ := h
    refine ⟨_, pss_cons (ps_set (i := 2) scL_low.nd rfl (.inl rfl) (pe_callB call_abs (by rfl) T.abs (by decide +kernel) (pa_cons (pv 0) pa_nil)))
      (pss_cons (ps_set (i := 3) scL_low.nd rfl (.inl rfl) (pe_callB call_abs (by rfl) T.abs (by decide +kernel) (pa_cons (pv 1) pa_nil)))
      (pss_cons (ps_while PassesOwn.never (pt_cmpR op_ne (pv 2) pe_int (nomark _))
        (pss_one (ps_par (i := 2) (j := 3) (by rfl) scL_low.nd rfl rfl (by decide) rfl rfl (pa_cons (pe_op op_modN (pv 3) (pv 2)) (pa_cons (pv 2) pa_nil)) (by rfl))))
      (pss_cons (ps_if (pt_cmpR op_lt (pv 1) pe_int (nomark _)) (pss_one ps_never) pss_nil)
      (pss_one (ps_ret (pe_tup (pa_cons (pe_op op_fdivW (pv 0) (pv 3)) (pa_cons (pe_op op_fdivW (pv 1) (pv 3)) pa_nil)))))))), ?_⟩
    have hg := gcd_pos (t := t) hb
    have hs := gcd_small (t := t) hb hz
    have hd : CDivW t (Int.gcd t (b : Int) : Int) := wide_div hg hs (by decide) (by decide)
    refine ⟨_, rfl, _, rfl, _, rfl, _, rfl, ?_⟩
    rw [abs_int, abs_int]
    refine ⟨fun m σ H' => ∃ x y : Int, σ = [some (.int t), some (.int (b : Int)), some (.int x), some (.int y)] ∧ H' = H ∧ 0 ≤ x ∧ 0 ≤ y ∧ m = x.toNat ∧ (Int.gcd y x : Int) = Int.gcd t (b : Int),
      ⟨_, (t.natAbs : Int), ((b : Int).natAbs : Int), rfl, rfl, by omega, by omega, rfl, ?_⟩, ?_⟩
    · rw [Int.gcd_comm]
      rfl
    rintro m σ H' ⟨x, y, rfl, rfl, hx, hy, rfl, he⟩
    refine ⟨_, rfl, rfl, _, rfl, ?_⟩
    by_cases e : x = 0
    · subst e
      refine iteF ?_
      have e2 : y = (Int.gcd t (b : Int) : Int) := by
        rw [← he, Int.gcd_zero_right]
        omega
      subst e2
      refine ⟨_, rfl, _, _, rfl, rfl, _, rfl, ?_⟩
      rw [decide_eq_false (show ¬ (b : Int) < 0 by omega)]
      refine iteF ?_
      refine ⟨_, rfl, _, rfl, _, _, rfl, rfl, hd, _, rfl, _, rfl, _, _, rfl, rfl, hd, (by show 2 ≤ sizeLine; decide), fun p hp => ?_⟩
      exact k _ p (same_new hp) (fr_mk hb upd_same)
    · have e1 : decide (V.int x = V.int 0) = false := decide_eq_false fun z => e (V.int.inj z)
      rw [e1]
      refine iteT ?_
      refine ⟨fun σ' H'' => ∃ x' y' : Int, σ' = [some (.int t), some (.int (b : Int)), some (.int x'), some (.int y')] ∧ H'' = H' ∧ 0 ≤ x' ∧ x' < x ∧ 0 ≤ y' ∧ (Int.gcd y' x' : Int) = Int.gcd t (b : Int), ?_, ?_⟩
      · rintro σ' H'' ⟨x', y', rfl, rfl, h1, h2, h3, h4⟩
        exact ⟨_, by omega, x', y', rfl, rfl, h1, h3, rfl, h4⟩
      · refine ⟨_, rfl, _, rfl, y, x, rfl, rfl, e, _, rfl, _, _, rfl, y.fmod x, x, rfl, rfl, ?_, ?_, hx, ?_⟩
        · rw [Int.fmod_eq_emod_of_nonneg y hx]
          exact Int.emod_nonneg y e
        · rw [Int.fmod_eq_emod_of_nonneg y hx]
          exact Int.emod_lt_of_pos y (by omega)
        · exact gcd_step hx he

theorem scl_plus : FnScope ["_law_one", "_law_other"] ["_law_one", "_law_other"] (defScope (top 64)) := ⟨rfl, rfl, rfl, by decide +kernel, rfl, by decide +kernel, by decide +kernel⟩
theorem d_l_plus (T : Top K mg) : Ok P w K mg base 2 "_law_plus" ["_law_one", "_law_other"] (spBin K fun q r => q + r) := by
  have D1 : Ok P w K mg base 1 "_law_low" ["_law_top", "_law_bottom"] (spLow K) := d_llow T
  refine mk_ok (k := 1) T.l_plus scl_plus (fun vs H Q E h => ?_) (fun _ _ _ _ _ _ us hl => match us, hl with | [_, _], _ => rfl) (fun f cdv A outer s H vs Q E hr h => ?_)
  · obtain ⟨_, _, _, _, rfl, _⟩ := h
    rfl
  · obtain ⟨a, b, q, r, rfl, ha, hb, za, zb, k⟩ := h
    refine ⟨_, pss_one (ps_ret (pe_def D1 hr (by rfl) (pa_cons (pe_op op_add (pe_op op_mulW (pe_ix ix_tup (pv 0) pe_int (fun _ _ => rfl)) (pe_ix ix_tup (pv 1) pe_int (fun _ _ => rfl))) (pe_op op_mulW (pe_ix ix_tup (pv 1) pe_int (fun _ _ => rfl)) (pe_ix ix_tup (pv 0) pe_int (fun _ _ => rfl)))) (pa_cons (pe_op op_mulW (pe_ix ix_tup (pv 0) pe_int (fun _ _ => rfl)) (pe_ix ix_tup (pv 1) pe_int (fun _ _ => rfl))) pa_nil)))), ?_⟩
    refine r_num rfl ha (r_den rfl hb ⟨_, _, rfl, rfl, cmul_nd za zb (by decide), r_num rfl hb (r_den rfl ha ⟨_, _, rfl, rfl, cmul_nd zb za (by decide), _, _, rfl, rfl, ?_⟩)⟩)
    refine r_den rfl ha (r_den rfl hb ⟨_, _, rfl, rfl, cmul_dd za zb (by decide), ?_⟩)
    refine ⟨_, q.den * r.den, congrArg (fun z => [V.int _, V.int z]) (Int.natCast_mul _ _).symm, Nat.mul_pos q.den_pos r.den_pos, Nat.lt_of_lt_of_le (bd_prod za zb) (Nat.pow_le_pow_right (by decide) (by decide)), fun H' p hs hp => ?_⟩
    rw [← Rat.add_def'] at hp
    exact k H' p hs hp

theorem scl_minus : FnScope ["_law_one", "_law_other"] ["_law_one", "_law_other"] (defScope (top 65)) := ⟨rfl, rfl, rfl, by decide +kernel, rfl, by decide +kernel, by decide +kernel⟩
theorem d_l_minus (T : Top K mg) : Ok P w K mg base 2 "_law_minus" ["_law_one", "_law_other"] (spBin K fun q r => q - r) := by
  have D1 : Ok P w K mg base 1 "_law_low" ["_law_top", "_law_bottom"] (spLow K) := d_llow T
  refine mk_ok (k := 1) T.l_minus scl_minus (fun vs H Q E h => ?_) (fun _ _ _ _ _ _ us hl => match us, hl with | [_, _], _ => rfl) (fun f cdv A outer s H vs Q E hr h => ?_)
  · obtain ⟨_, _, _, _, rfl, _⟩ := h
    rfl
  · obtain ⟨a, b, q, r, rfl, ha, hb, za, zb, k⟩ := h
    refine ⟨_, pss_one (ps_ret (pe_def D1 hr (by rfl) (pa_cons (pe_op op_sub (pe_op op_mulW (pe_ix ix_tup (pv 0) pe_int (fun _ _ => rfl)) (pe_ix ix_tup (pv 1) pe_int (fun _ _ => rfl))) (pe_op op_mulW (pe_ix ix_tup (pv 1) pe_int (fun _ _ => rfl)) (pe_ix ix_tup (pv 0) pe_int (fun _ _ => rfl)))) (pa_cons (pe_op op_mulW (pe_ix ix_tup (pv 0) pe_int (fun _ _ => rfl)) (pe_ix ix_tup (pv 1) pe_int (fun _ _ => rfl))) pa_nil)))), ?_⟩
    refine r_num rfl ha (r_den rfl hb ⟨_, _, rfl, rfl, cmul_nd za zb (by decide), r_num rfl hb (r_den rfl ha ⟨_, _, rfl, rfl, cmul_nd zb za (by decide), _, _, rfl, rfl, ?_⟩)⟩)
    refine r_den rfl ha (r_den rfl hb ⟨_, _, rfl, rfl, cmul_dd za zb (by decide), ?_⟩)
    refine ⟨_, q.den * r.den, congrArg (fun z => [V.int _, V.int z]) (Int.natCast_mul _ _).symm, Nat.mul_pos q.den_pos r.den_pos, Nat.lt_of_lt_of_le (bd_prod za zb) (Nat.pow_le_pow_right (by decide) (by decide)), fun H' p hs hp => ?_⟩
    rw [← Rat.sub_def'] at hp
    exact k H' p hs hp

theorem scl_under : FnScope ["_law_one", "_law_other"] ["_law_one", "_law_other"] (defScope (top 66)) := ⟨rfl, rfl, rfl, by decide +kernel, rfl, by decide +kernel, by decide +kernel⟩
theorem d_l_under (T : Top K mg) : Ok P w K mg base 1 "_law_under" ["_law_one", "_law_other"] (spUnd K) := by
  refine mk_ok (k := 0) T.l_under scl_under (fun vs H Q E h => ?_) (fun _ _ _ _ _ _ us hl => match us, hl with | [_, _], _ => rfl) (fun f cdv A outer s H vs Q E hr h => ?_)
  · obtain ⟨_, _, _, _, rfl, _⟩ := h
    rfl
  · obtain ⟨a, b, q, r, rfl, ha, hb, za, zb, k⟩ := h
    refine ⟨_, pss_one (ps_ret (pe_cmpR op_lt (pe_op op_mulW (pe_ix ix_tup (pv 0) pe_int (fun _ _ => rfl)) (pe_ix ix_tup (pv 1) pe_int (fun _ _ => rfl))) (pe_op op_mulW (pe_ix ix_tup (pv 1) pe_int (fun _ _ => rfl)) (pe_ix ix_tup (pv 0) pe_int (fun _ _ => rfl))) (nomark _))), ?_⟩
    refine r_num rfl ha (r_den rfl hb ⟨_, _, rfl, rfl, cmul_nd za zb (by decide), r_num rfl hb (r_den rfl ha ⟨_, _, rfl, rfl, cmul_nd zb za (by decide), _, _, rfl, rfl, ?_⟩)⟩)
    show Q (V.bl (decide (q.num * (r.den : Int) < r.num * (q.den : Int)))) H
    rw [lt_dec]
    exact k
end
end K40
namespace K40
open PySem PyProof.Rows L2
/-! ### a ring, a sending, ways, as they stand -/
def way (b : Bool) : Str := if b then "on" else "back"
theorem way_eq (a b : Bool) : decide (V.str (way a) = V.str (way b)) = (a == b) := by
  cases a <;> cases b <;> decide +kernel
def refs (m : Nat) (f : Nat → Addr) : List V := (List.range m).map fun k => V.ref (f k)
def wayV (m : Nat) (w : Nat → Bool) : List V := (List.range m).map fun k => V.str (way (w k))
def nums (l : List Nat) : List V := l.map fun (k : Nat) => V.int (k : Int)
theorem refs_len (m : Nat) (f : Nat → Addr) : (refs m f).length = m := by
  unfold refs
  rw [List.length_map, List.length_range]
theorem wayV_len (m : Nat) (w : Nat → Bool) : (wayV m w).length = m := by
  unfold wayV
  rw [List.length_map, List.length_range]
theorem refs_at {m k : Nat} {f : Nat → Addr} (h : k < m) : (refs m f)[k]? = some (V.ref (f k)) := by
  unfold refs
  rw [List.getElem?_map, List.getElem?_range h]
  rfl
theorem wayV_at {m k : Nat} {w : Nat → Bool} (h : k < m) : (wayV m w)[k]? = some (V.str (way (w k))) := by
  unfold wayV
  rw [List.getElem?_map, List.getElem?_range h]
  rfl
theorem refs_succ (m : Nat) (f : Nat → Addr) : refs (m + 1) f = refs m f ++ [V.ref (f m)] := by
  unfold refs
  rw [List.range_succ, List.map_append]
  rfl
theorem refs_congr {m : Nat} {f g : Nat → Addr} (h : ∀ k, k < m → f k = g k) : refs m f = refs m g := by
  unfold refs
  refine List.map_congr_left fun k hk => ?_
  rw [h k (List.mem_range.mp hk)]
theorem wayV_succ (m : Nat) (w : Nat → Bool) : wayV (m + 1) w = wayV m w ++ [V.str (way (w m))] := by
  unfold wayV
  rw [List.range_succ, List.map_append]
  rfl
theorem refs_snoc (m : Nat) (f : Nat → Addr) (p : Addr) : refs m f ++ [V.ref p] = refs (m + 1) (fun k => if k = m then p else f k) := by
  rw [refs_succ, if_pos rfl]
  refine congrArg (· ++ [V.ref p]) (refs_congr fun k hk => ?_)
  rw [if_neg (by omega)]
theorem nums_at {l : List Nat} {i k : Nat} (h : l[i]? = some k) : (nums l)[i]? = some (V.int (k : Int)) := by
  unfold nums
  rw [List.getElem?_map, h]
  rfl
theorem nums_len (l : List Nat) : (nums l).length = l.length := List.length_map _
theorem nums_of {l : List Nat} {i : Nat} {v : V} (h : (nums l)[i]? = some v) : ∃ k, l[i]? = some k ∧ v = V.int (k : Int) := by
  unfold nums at h
  rw [List.getElem?_map] at h
  cases e : l[i]? with
  | none =>
    rw [e] at h
    cases h
  | some k =>
    rw [e] at h
    exact ⟨k, rfl, (Option.some.inj h).symm⟩
def AskAt (K : PySem.W.Frag) (H : Hp) (h : Nat) (x : Addr) (a : Ask) : Prop := ∃ (nm : Str) (s : Addr), H x = some (.tup [.str nm, .int (a.one h : Int), .int (a.oth h : Int), .ref s]) ∧ FR K H s a.s
structure AsksAt (K : PySem.W.Frag) (H : Hp) (h m : Nat) (al : Addr) (A : Nat → Ask) (f : Nat → Addr) : Prop where
  lst : H al = some (.lst (refs m f))
  ask : ∀ k, k < m → AskAt K H h (f k) (A k)
def RingAt (K : PySem.W.Frag) (H : Hp) (h n m : Nat) (r : Addr) (A : Nat → Ask) : Prop := ∃ (rm al : Addr) (f : Nat → Addr) (xs : List V), H r = some (.tup [.ref rm, .ref al]) ∧ H rm = some (.lst xs) ∧ xs.length = n ∧ AsksAt K H h m al A f
def SendAt (K : PySem.W.Frag) (H : Hp) (m : Nat) (a : Addr) (q : Nat → Rat) : Prop := ∃ f : Nat → Addr, H a = some (.lst (refs m f)) ∧ ∀ k, k < m → FR K H (f k) (q k)
def WaysAt (H : Hp) (m : Nat) (a : Addr) (w : Nat → Bool) : Prop := H a = some (.lst (wayV m w))
section
variable {K : PySem.W.Frag} {H H' : Hp} {h n m : Nat} {A : Nat → Ask} {q : Nat → Rat} {w : Nat → Bool} {a r x : Addr}
theorem AskAt.same {b : Ask} (R : AskAt K H h x b) (e : Same H H') : AskAt K H' h x b := by
  obtain ⟨nm, s, h1, h2⟩ := R
  exact ⟨nm, s, e _ _ h1, h2.same e⟩
theorem AsksAt.same {f : Nat → Addr} (R : AsksAt K H h m a A f) (e : Same H H') : AsksAt K H' h m a A f := ⟨e _ _ R.lst, fun k hk => (R.ask k hk).same e⟩
theorem RingAt.same (R : RingAt K H h n m r A) (e : Same H H') : RingAt K H' h n m r A := by
  obtain ⟨rm, al, f, xs, h1, h2, h3, h4⟩ := R
  exact ⟨rm, al, f, xs, e _ _ h1, e _ _ h2, h3, h4.same e⟩
theorem SendAt.same (R : SendAt K H m a q) (e : Same H H') : SendAt K H' m a q := by
  obtain ⟨f, h1, h2⟩ := R
  exact ⟨f, e _ _ h1, fun k hk => (h2 k hk).same e⟩
end
/-- all that is known of the asks and of a sending that parts each -/
structure Cxt (K : PySem.W.Frag) (H : Hp) (h n m : Nat) (r sd : Addr) (A : Nat → Ask) (q : Nat → Rat) : Prop where
  ch : Chain h n m A
  st : Sent m A q
  ring : RingAt K H h n m r A
  send : SendAt K H m sd q
theorem Cxt.same {K : PySem.W.Frag} {H H' : Hp} {h n m : Nat} {r sd : Addr} {A : Nat → Ask} {q : Nat → Rat} (C : Cxt K H h n m r sd A q) (e : Same H H') : Cxt K H' h n m r sd A q := ⟨C.ch, C.st, C.ring.same e, C.send.same e⟩
/-! ### readings of ring[1], ring[1][k], ring[1][k][3], sending[k] -/
section
variable {K : PySem.W.Frag} {σ : L2.St} {H : Hp} {i j : Nat} {r sd : Addr} {h n m k : Nat} {A : Nat → Ask} {q : Nat → Rat} {Q : VK}
theorem r_asks (hi : σ[i]? = some (some (.ref r))) (R : RingAt K H h n m r A) (g : ∀ al f, AsksAt K H h m al A f → Q (.ref al) H) : tOp (rIxT K) (tVar i) (tC (.int 1)) σ H Q := by
  obtain ⟨rm, al, f, xs, h1, h2, h3, h4⟩ := R
  exact ⟨.ref r, hi, r, _, 1, .ref al, rfl, rfl, SqT.of h1, rfl, g al f h4⟩
theorem r_rooms (hi : σ[i]? = some (some (.ref r))) (R : RingAt K H h n m r A) (g : ∀ rm xs, H rm = some (.lst xs) → xs.length = n → Q (.ref rm) H) : tOp (rIxT K) (tVar i) (tC (.int 0)) σ H Q := by
  obtain ⟨rm, al, f, xs, h1, h2, h3, h4⟩ := R
  exact ⟨.ref r, hi, r, _, 0, .ref rm, rfl, rfl, SqT.of h1, rfl, g rm xs h2 h3⟩
theorem r_ask (hi : σ[i]? = some (some (.ref r))) (hj : σ[j]? = some (some (.int (k : Int)))) (R : RingAt K H h n m r A) (hk : k < m)
    (g : ∀ (x : Addr) (nm : Str) (s : Addr), H x = some (.tup [.str nm, .int ((A k).one h : Int), .int ((A k).oth h : Int), .ref s]) → FR K H s (A k).s → Q (.ref x) H) :
    tOp (rIxL K) (tOp (rIxT K) (tVar i) (tC (.int 1))) (tVar j) σ H Q := by
  refine r_asks hi R fun al f L => ?_
  obtain ⟨nm, s, h1, h2⟩ := L.ask k hk
  exact ⟨_, hj, al, _, _, _, rfl, rfl, SqL.of L.lst, atI_nat (refs_at hk), g _ nm s h1 h2⟩
theorem r_size (hi : σ[i]? = some (some (.ref r))) (hj : σ[j]? = some (some (.int (k : Int)))) (R : RingAt K H h n m r A) (hk : k < m) (g : ∀ s : Addr, FR K H s (A k).s → Q (.ref s) H) :
    tOp (rIxT K) (tOp (rIxL K) (tOp (rIxT K) (tVar i) (tC (.int 1))) (tVar j)) (tC (.int 3)) σ H Q :=
  r_ask hi hj R hk fun x nm s h1 h2 => ⟨x, _, 3, .ref s, rfl, rfl, SqT.of h1, rfl, g s h2⟩
theorem r_part (hi : σ[i]? = some (some (.ref sd))) (hj : σ[j]? = some (some (.int (k : Int)))) (R : SendAt K H m sd q) (hk : k < m) (g : ∀ s : Addr, FR K H s (q k) → Q (.ref s) H) :
    tOp (rIxL K) (tVar i) (tVar j) σ H Q := by
  obtain ⟨f, h1, h2⟩ := R
  exact ⟨_, hi, _, hj, sd, _, _, _, rfl, rfl, SqL.of h1, atI_nat (refs_at hk), g _ (h2 k hk)⟩
end
/-! ### asks that cross -/
section
variable {P : Program} {w : World} {K : PySem.W.Frag} {mg : Str → Option Value} {base : Heap}
def spCross (K : PySem.W.Frag) : Sp := fun vs H Q _ => ∃ (r : Addr) (k l h n m : Nat) (A : Nat → Ask), vs = [.ref r, .int (k : Int), .int (l : Int)] ∧ Chain h n m A ∧ RingAt K H h n m r A ∧ k < m ∧ l < m ∧ k ≠ l ∧ ∀ H', Same H H' → Q (.bl true) H'
theorem scCross : FnScope ["ring", "k", "l", "name", "one", "other", "size", "places", "low", "high", "place"] ["ring", "k", "l"] (defScope (top 17)) := ⟨rfl, rfl, rfl, by decide +kernel, rfl, by decide +kernel, by decide +kernel⟩
def betw (lo hi : Int) (p : Int) : Bool := decide (lo < p ∧ p < hi)
theorem cross_one {a b : Ask} {h : Nat} (ha : a.p < h) (hb : b.p < h) (hn : a.p ≠ b.p) :
    ([(b.one h : Int), (b.oth h : Int)].filter (betw (if (a.oth h : Int) < a.one h then (a.oth h : Int) else a.one h) (if (a.oth h : Int) > a.one h then (a.oth h : Int) else a.one h))).length = 1 := by
  unfold betw Ask.one Ask.oth
  have e1 : ∀ x y : Int, x < y → (if y < x then y else x) = x := fun x y z => if_neg (by omega)
  have e2 : ∀ x y : Int, x < y → (if y > x then y else x) = y := fun x y z => if_pos z
  have e3 : ∀ x y : Int, x < y → (if x < y then x else y) = x := fun x y z => if_pos z
  have e4 : ∀ x y : Int, x < y → (if x > y then x else y) = y := fun x y z => if_neg (by omega)
  have hlt : ((a.p : Nat) : Int) < ((a.p + h : Nat) : Int) := by omega
  have lo : ∀ c d : Bool, True := fun _ _ => trivial
  by_cases hc : a.p < b.p
  · have t1 : decide (((a.p : Nat) : Int) < (b.p : Int) ∧ (b.p : Int) < ((a.p + h : Nat) : Int)) = true := decide_eq_true (by omega)
    have t2 : decide (((a.p : Nat) : Int) < ((b.p + h : Nat) : Int) ∧ ((b.p + h : Nat) : Int) < ((a.p + h : Nat) : Int)) = false := decide_eq_false (by omega)
    cases a.up <;> cases b.up <;> simp only [if_true, Bool.false_eq_true, if_false, e1 _ _ hlt, e2 _ _ hlt, e3 _ _ hlt, e4 _ _ hlt, List.filter_cons, t1, t2, List.filter_nil, List.length_cons, List.length_nil]
  · have t1 : decide (((a.p : Nat) : Int) < (b.p : Int) ∧ (b.p : Int) < ((a.p + h : Nat) : Int)) = false := decide_eq_false (by omega)
    have t2 : decide (((a.p : Nat) : Int) < ((b.p + h : Nat) : Int) ∧ ((b.p + h : Nat) : Int) < ((a.p + h : Nat) : Int)) = true := decide_eq_true (by omega)
    cases a.up <;> cases b.up <;> simp only [if_true, Bool.false_eq_true, if_false, e1 _ _ hlt, e2 _ _ hlt, e3 _ _ hlt, e4 _ _ hlt, List.filter_cons, t1, t2, List.filter_nil, List.length_cons, List.length_nil]
theorem not_in {a b : Ask} {h : Nat} (ha : a.p < h) (hb : b.p < h) (hn : a.p ≠ b.p) : inV (.int (a.one h : Int)) [.int (b.one h : Int), .int (b.oth h : Int)] = false ∧ inV (.int (a.oth h : Int)) [.int (b.one h : Int), .int (b.oth h : Int)] = false := by
  unfold inV Ask.one Ask.oth
  constructor <;> cases a.up <;> cases b.up <;> simp [eqV] <;> omega
theorem d_cross (T : Top K mg) : Ok P w K mg base 1 "do_cross" ["ring", "k", "l"] (spCross K) := by
  refine mk_ok (k := 0) T.do_cross scCross (fun vs H Q E h => ?_) (fun _ _ _ _ _ _ us hl => match us, hl with | [_, _, _], _ => rfl) (fun f cdv A outer s H vs Q E hr h => ?_)
  · obtain ⟨_, _, _, _, _, _, _, rfl, _⟩ := h
    rfl
  · obtain ⟨r, k, l, h, n, m, A, rfl, C, R, hk, hl, hkl, q⟩ := h
    refine ⟨_, pss_cons (ps_asg (pe_ix ix_list (pe_ix ix_tup (pv 0) pe_int (fun _ _ => rfl)) (pv 1) (fun _ _ => rfl))
          (pg_tup (by rfl) (pgs_cons (pg_name (i := 3) scCross.nd rfl (.inl rfl)) (pgs_cons (pg_name (i := 4) scCross.nd rfl (.inl rfl)) (pgs_cons (pg_name (i := 5) scCross.nd rfl (.inl rfl)) (pgs_cons (pg_name (i := 6) scCross.nd rfl (.inl rfl)) pgs_nil))))))
      (pss_cons (ps_set (i := 7) scCross.nd rfl (.inl rfl) (pe_slice sl_tup (pe_ix ix_list (pe_ix ix_tup (pv 0) pe_int (fun _ _ => rfl)) (pv 2) (fun _ _ => rfl)) (po_some pe_int) (po_some pe_int)))
      (pss_cons (ps_if (PW.pt (pw_or (pt_cmpR op_in_seq (pv 4) (pv 7) (by rfl)) (pw_or1 (pt_cmpR op_in_seq (pv 5) (pv 7) (by rfl))))) (pss_one (ps_ret pe_bl)) pss_nil)
      (pss_cons (ps_set (i := 8) scCross.nd rfl (.inr rfl) (pe_callB (call_min2 rfl) (by rfl) T.min (by decide +kernel) (pa_cons (pv 4) (pa_cons (pv 5) pa_nil))))
      (pss_cons (ps_set (i := 9) scCross.nd rfl (.inr rfl) (pe_callB (call_max2 rfl) (by rfl) T.max (by decide +kernel) (pa_cons (pv 4) (pa_cons (pv 5) pa_nil))))
      (pss_one (ps_ret (pe_cmpR op_eq (pe_callB call_len_seq (by rfl) T.len PySem.boot_len (pa_cons
          (pe_lc (own := [("place", 10)]) (g := gName 10) rfl scCross.nd (pi_tup (pv 7)) (blkOk_by (N := ["ring", "k", "l", "name", "one", "other", "size", "places", "low", "high", "place"]) (sc := defScope (top 17)) (by decide +kernel))
            (fun _ _ _ _ _ => pg_name (i := 10) scCross.nd rfl (Or.inl rfl)) (fun _ _ _ _ _ => pts_one (pt_chain op_lt op_lt (pv 8) (pv 10) (pv 9))) (fun _ _ _ _ _ => pv 10)) pa_nil)) pe_int (nomark _)))))))), ?_⟩
    refine r_ask rfl rfl R hk fun x nm s hx _ => ?_
    refine ⟨x, _, rfl, SqT.of hx, rfl, _, _, rfl, _, _, rfl, _, _, rfl, _, _, rfl, rfl, ?_⟩
    refine r_ask rfl rfl R hl fun y nm2 s2 hy _ => ?_
    refine ⟨1, rfl, 3, rfl, y, _, rfl, SqT.of hy, (by show ¬ (HT.sIx 4 0 (some 1) = 0 ∧ HT.sIx 4 4 (some 3) = 4); decide), fun p hp => ?_⟩
    have hs : Same H (upd H p (.tup (cutV [.str nm2, .int ((A l).one h : Int), .int ((A l).oth h : Int), .ref s2] (some 1) (some 3)))) := same_new hp
    have ec : cutV [V.str nm2, .int ((A l).one h : Int), .int ((A l).oth h : Int), .ref s2] (some 1) (some 3) = [V.int ((A l).one h : Int), .int ((A l).oth h : Int)] := rfl
    rw [ec] at hs ⊢
    obtain ⟨i1, i2⟩ := not_in (C.lt k hk) (C.lt l hl) (fun e => hkl (C.inj k l hk hl e))
    have ht : SqT K (upd H p (.tup [V.int ((A l).one h : Int), .int ((A l).oth h : Int)])) p [V.int ((A l).one h : Int), .int ((A l).oth h : Int)] := tup_new
    refine ⟨_, rfl, _, rfl, p, _, rfl, .inr ht, rfl, rfl, _, rfl, ?_⟩
    rw [show (if false = true then !inV (V.int ((A k).one h : Int)) [V.int ((A l).one h : Int), V.int ((A l).oth h : Int)] else inV (V.int ((A k).one h : Int)) [V.int ((A l).one h : Int), V.int ((A l).oth h : Int)]) = false from i1]
    refine iteF ?_
    refine ⟨_, rfl, _, rfl, p, _, rfl, .inr ht, rfl, rfl, _, rfl, ?_⟩
    rw [show (if false = true then !inV (V.int ((A k).oth h : Int)) [V.int ((A l).one h : Int), V.int ((A l).oth h : Int)] else inV (V.int ((A k).oth h : Int)) [V.int ((A l).one h : Int), V.int ((A l).oth h : Int)]) = false from i2]
    refine iteF ?_
    refine ⟨_, rfl, _, rfl, _, _, rfl, ?_⟩
    refine ⟨_, rfl, _, rfl, _, _, rfl, ?_⟩
    have hx1 := cross_one (C.lt k hk) (C.lt l hl) (fun e => hkl (C.inj k l hk hl e))
    generalize hlo : (if ((A k).oth h : Int) < (A k).one h then ((A k).oth h : Int) else (A k).one h) = lo at hx1 ⊢
    generalize hhi : (if ((A k).oth h : Int) > (A k).one h then ((A k).oth h : Int) else (A k).one h) = hi at hx1 ⊢
    refine ⟨_, rfl, p, rfl, ⟨_, ht⟩, fun D hD => ?_⟩
    refine lc_it (walk_tup (K := K) (a := p) (xs := [V.int ((A l).one h : Int), .int ((A l).oth h : Int)]))
      (fun i H' => ∃ ys : List Int, H' = upd (upd H p (.tup [V.int ((A l).one h : Int), .int ((A l).oth h : Int)])) D (.lst (ys.map V.int)) ∧ ys = ([((A l).one h : Int), ((A l).oth h : Int)].take i).filter (betw lo hi))
      ⟨[], rfl, rfl⟩ ?_ ?_ ?_
    · rintro i H' _ ⟨ys, rfl, _⟩
      exact same_tup (same_new hD) ht
    · rintro i v H' H'' hi' ⟨ys, rfl, hys⟩ ⟨rfl, hv⟩
      refine ⟨rfl, ?_⟩
      obtain ⟨z, hz, rfl⟩ : ∃ z, [((A l).one h : Int), ((A l).oth h : Int)][i]? = some z ∧ v = V.int z := by
        have e : [V.int ((A l).one h : Int), V.int ((A l).oth h : Int)] = [((A l).one h : Int), ((A l).oth h : Int)].map V.int := rfl
        rw [e, List.getElem?_map] at hv
        cases e2 : [((A l).one h : Int), ((A l).oth h : Int)][i]? with
        | none =>
          rw [e2] at hv
          cases hv
        | some z =>
          rw [e2] at hv
          exact ⟨z, rfl, (Option.some.inj hv).symm⟩
      have ef : [((A l).one h : Int), ((A l).oth h : Int)].take (i + 1) = [((A l).one h : Int), ((A l).oth h : Int)].take i ++ [z] := by
        rw [List.take_add_one, hz]
        rfl
      refine ⟨_, rfl, _, rfl, lo, z, rfl, rfl, _, rfl, ?_⟩
      by_cases c1 : lo < z
      · rw [decide_eq_true c1]
        refine iteT ⟨_, rfl, z, hi, rfl, rfl, _, rfl, ?_⟩
        by_cases c2 : z < hi
        · rw [decide_eq_true c2]
          refine iteT ⟨_, rfl, ys.map V.int, upd_same, ?_, ys ++ [z], ?_, ?_⟩
          · rw [List.length_map, hys]
            refine Nat.lt_of_le_of_lt (List.length_filter_le _ _) ?_
            rw [List.length_take]
            exact Nat.lt_of_le_of_lt (Nat.min_le_right _ _) (by show 2 < sizeLine; decide)
          · rw [upd_upd, List.map_append]
            rfl
          · rw [ef, List.filter_append, ← hys, List.filter_cons, if_pos (show betw lo hi z = true from decide_eq_true ⟨c1, c2⟩)]
            rfl
        · rw [decide_eq_false c2]
          refine iteF ⟨ys, rfl, ?_⟩
          rw [ef, List.filter_append, ← hys, List.filter_cons, if_neg (show ¬ betw lo hi z = true from fun e => c2 (of_decide_eq_true e).2)]
          exact (List.append_nil ys).symm
      · rw [decide_eq_false c1]
        refine iteF ⟨_, rfl, iteF ⟨ys, rfl, ?_⟩⟩
        rw [ef, List.filter_append, ← hys, List.filter_cons, if_neg (show ¬ betw lo hi z = true from fun e => c1 (of_decide_eq_true e).1)]
        exact (List.append_nil ys).symm
    · rintro H' ⟨ys, rfl, hys⟩
      have hlen : (ys.map V.int).length = 1 := by
        rw [List.length_map, hys]
        exact hx1
      refine ⟨D, ys.map V.int, rfl, .inl (SqL.of upd_same), rfl, ?_⟩
      rw [hlen]
      exact q _ (hs.trans (same_new hD))
end
end K40
namespace K40
open PySem PyProof.Rows L2
section
variable {P : Program} {w : World} {K : PySem.W.Frag} {mg : Str → Option Value} {base : Heap}
theorem fr0 {K : PySem.W.Frag} {H : Hp} {a : Addr} (h : SqT K H a [.int 0, .int 1]) : FR K H a 0 := h
theorem bd50 {n m h : Nat} {A : Nat → Ask} (C : Chain h n m A) {k : Nat} (hk : k < m) : Bd 3900 (A k).s := (C.bd k hk).mono (by decide)
theorem bd100 {m : Nat} {A : Nat → Ask} {q : Nat → Rat} (C : Sent m A q) {k : Nat} (hk : k < m) : Bd 3900 (q k) := (C.bd k hk).mono (by decide)
/-! ### parted asks -/
def spIsP (K : PySem.W.Frag) : Sp := fun vs H Q _ => ∃ (r sd : Addr) (k h n m : Nat) (A : Nat → Ask) (q : Nat → Rat), vs = [.ref r, .ref sd, .int (k : Int)] ∧ Cxt K H h n m r sd A q ∧ k < m ∧ Q (.bl true) H
theorem scIsP : FnScope ["ring", "sending", "k"] ["ring", "sending", "k"] (defScope (top 18)) := ⟨rfl, rfl, rfl, by decide +kernel, rfl, by decide +kernel, by decide +kernel⟩
theorem d_isP (T : Top K mg) : Ok P w K mg base 2 "is_parted" ["ring", "sending", "k"] (spIsP K) := by
  have D1 : Ok P w K mg base 1 "under" ["one", "other"] (spUnd K) := d_under T
  refine mk_ok (k := 1) T.is_parted scIsP (fun vs H Q E h => ?_) (fun _ _ _ _ _ _ us hl => match us, hl with | [_, _, _], _ => rfl) (fun f cdv A outer s H vs Q E hr h => ?_)
  · obtain ⟨_, _, _, _, _, _, _, _, rfl, _⟩ := h
    rfl
  · obtain ⟨r, sd, k, h, n, m, A, q, rfl, C, hk, kq⟩ := h
    obtain ⟨a0, g0, t0⟩ := T.nought
    refine ⟨_, pss_one (ps_ret (pe_and (pe_def D1 hr (by rfl) (pa_cons (pe_glob (v := .ref a0) rfl g0 rfl) (pa_cons (pe_ix ix_list (pv 1) (pv 2) (fun _ _ => rfl)) pa_nil)))
      (pe_one (pe_def D1 hr (by rfl) (pa_cons (pe_ix ix_list (pv 1) (pv 2) (fun _ _ => rfl)) (pa_cons (pe_ix ix_tup (pe_ix ix_list (pe_ix ix_tup (pv 0) pe_int (fun _ _ => rfl)) (pv 2) (fun _ _ => rfl)) pe_int (fun _ _ => rfl)) pa_nil)))))), ?_⟩
    refine r_part (k := k) rfl rfl C.send hk fun x hx => ?_
    refine ⟨a0, x, 0, q k, rfl, fr0 (t0 H), hx, bd0.mono (by decide), bd100 C.st hk, true, congrArg V.bl (decide_eq_true (C.st.pos k hk)), iteT ?_⟩
    refine r_part (k := k) rfl rfl C.send hk fun y hy => ?_
    refine r_size (k := k) rfl rfl C.ring hk fun z hz => ?_
    refine ⟨y, z, q k, (A k).s, rfl, hy, hz, bd100 C.st hk, bd50 C.ch hk, ?_⟩
    rw [decide_eq_true (C.st.lt k hk)]
    exact kq
def spParted (K : PySem.W.Frag) : Sp := fun vs H Q _ => ∃ (r sd : Addr) (h n m : Nat) (A : Nat → Ask) (q : Nat → Rat), vs = [.ref r, .ref sd] ∧ Cxt K H h n m r sd A q ∧ ∀ (H' : Hp) (p : Addr), Same H H' → H p = none → H' p = some (.lst (nums (List.range m))) → Q (.ref p) H'
theorem scParted : FnScope ["ring", "sending", "k"] ["ring", "sending"] (defScope (top 19)) := ⟨rfl, rfl, rfl, by decide +kernel, rfl, by decide +kernel, by decide +kernel⟩
theorem nums_succ (i : Nat) : nums (List.range (i + 1)) = nums (List.range i) ++ [V.int (i : Int)] := by
  unfold nums
  rw [List.range_succ, List.map_append]
  rfl
theorem small5 {i : Nat} (h : i ≤ 5) : i < sizeLine := Nat.lt_of_le_of_lt h (by decide)
theorem walk_range0 {n : Nat} : Walk (Itr 0 n) n (fun _ => True) (fun i H x H' => H' = H ∧ x = V.int (i : Int)) :=
  walk_range.mono (fun _ _ => trivial) fun i H x H' _ _ y => ⟨y.1, by
    rw [y.2]
    show V.int (0 + (i : Int)) = V.int (i : Int)
    rw [Int.zero_add]⟩
theorem d_parted (T : Top K mg) : Ok P w K mg base 3 "parted_in" ["ring", "sending"] (spParted K) := by
  have D1 : Ok P w K mg base 2 "is_parted" ["ring", "sending", "k"] (spIsP K) := d_isP T
  refine mk_ok (k := 2) T.parted_in scParted (fun vs H Q E h => ?_) (fun _ _ _ _ _ _ us hl => match us, hl with | [_, _], _ => rfl) (fun f cdv A outer s H vs Q E hr h => ?_)
  · obtain ⟨_, _, _, _, _, _, _, rfl, _⟩ := h
    rfl
  · obtain ⟨r, sd, h, n, m, A, q, rfl, C, kq⟩ := h
    refine ⟨_, pss_one (ps_ret (pe_lc (own := [("k", 2)]) (g := gName 2) rfl scParted.nd (pi_range1 rfl T.range (pa_cons (pe_callB call_len_seq (by rfl) T.len PySem.boot_len (pa_cons (pe_ix ix_tup (pv 0) pe_int (fun _ _ => rfl)) pa_nil)) pa_nil))
      (blkOk_by (N := ["ring", "sending", "k"]) (sc := defScope (top 19)) (by decide +kernel)) (fun _ _ _ _ _ => pg_name (i := 2) scParted.nd rfl (Or.inl rfl))
      (fun _ _ _ _ _ => pts_one (pt_val (pe_def D1 hr (by rfl) (pa_cons (pv 0) (pa_cons (pv 1) (pa_cons (pv 2) pa_nil)))))) (fun _ _ _ _ _ => pv 2))), ?_⟩
    refine r_asks rfl C.ring fun al g L => ?_
    have hm := C.ch.m5
    refine ⟨al, _, rfl, .inl (SqL.of L.lst), _, rfl, ?_, ?_, fun D hD => ?_⟩
    · rw [refs_len]
      omega
    · rw [refs_len]
      omega
    rw [refs_len, Int.toNat_natCast]
    refine lc_it walk_range0 (fun i H' => H' = upd H D (.lst (nums (List.range i)))) rfl (fun _ _ _ _ => trivial) ?_ ?_
    · rintro i v H' H'' hi rfl ⟨rfl, rfl⟩
      refine ⟨rfl, ?_⟩
      have C' := C.same (same_new (o := .lst (nums (List.range i))) hD)
      refine ⟨_, rfl, _, rfl, _, rfl, r, sd, i, h, n, m, A, q, rfl, C', hi, true, rfl, iteT ⟨_, rfl, _, upd_same, ?_, ?_⟩⟩
      · rw [nums_len, List.length_range]
        exact small5 (by omega)
      · rw [upd_upd, nums_succ]
    · rintro H' rfl
      exact kq _ D (same_new hD) hD upd_same
def spAllX (K : PySem.W.Frag) : Sp := fun vs H Q _ => ∃ (r p : Addr) (h n m : Nat) (A : Nat → Ask), vs = [.ref r, .ref p] ∧ Chain h n m A ∧ RingAt K H h n m r A ∧ H p = some (.lst (nums (List.range m))) ∧ ∀ H', Same H H' → Q (.bl true) H'
theorem scAllX : FnScope ["ring", "some", "k", "l"] ["ring", "some"] (defScope (top 20)) := ⟨rfl, rfl, rfl, by decide +kernel, rfl, by decide +kernel, by decide +kernel⟩
theorem range_of {m i : Nat} {v : V} (h : (nums (List.range m))[i]? = some v) : i < m ∧ v = V.int (i : Int) := by
  obtain ⟨k, h1, h2⟩ := nums_of h
  obtain ⟨h3, h4⟩ := List.getElem?_eq_some_iff.mp h1
  rw [List.length_range] at h3
  rw [List.getElem_range] at h4
  subst h4
  exact ⟨h3, h2⟩
theorem d_allX (T : Top K mg) : Ok P w K mg base 2 "all_cross" ["ring", "some"] (spAllX K) := by
  have D1 : Ok P w K mg base 1 "do_cross" ["ring", "k", "l"] (spCross K) := d_cross T
  refine mk_ok (k := 1) T.all_cross scAllX (fun vs H Q E h => ?_) (fun _ _ _ _ _ _ us hl => match us, hl with | [_, _], _ => rfl) (fun f cdv A outer s H vs Q E hr h => ?_)
  · obtain ⟨_, _, _, _, _, _, rfl, _⟩ := h
    rfl
  · obtain ⟨r, p, h, n, m, A, rfl, C, R, hp, kq⟩ := h
    refine ⟨_, pss_cons (ps_for PassesOwn.never rfl (pi_list (pv 1)) (pg_name (i := 2) scAllX.nd rfl (.inl rfl))
        (pss_one (ps_for PassesOwn.never rfl (pi_list (pv 1)) (pg_name (i := 3) scAllX.nd rfl (.inl rfl))
          (pss_one (ps_if (PW.pt (pw_and (pt_cmpR op_lt (pv 2) (pv 3) (nomark _)) (pw_and1 (pt_not (pt_val (pe_def D1 hr (by rfl) (pa_cons (pv 0) (pa_cons (pv 2) (pa_cons (pv 3) pa_nil)))))))))
            (pss_one (ps_ret pe_bl)) pss_nil)))))
      (pss_one (ps_ret pe_bl)), ?_⟩
    refine ⟨_, rfl, p, rfl, ⟨_, SqL.of hp⟩, for_it (walk_list (K := K) (a := p) (xs := nums (List.range m))) (fun i σ H' => Same H H' ∧ ∃ v2 v3 : Option V, σ = [some (.ref r), some (.ref p), v2, v3]) ⟨Same.refl H, none, none, rfl⟩ ?_ ?_ ?_⟩
    · rintro i σ H' _ ⟨s1, _⟩
      exact SqL.of (s1 _ _ hp)
    · rintro i v σ H' H'' hi ⟨s1, v2, v3, rfl⟩ ⟨rfl, hv⟩
      obtain ⟨hi', rfl⟩ := range_of hv
      refine ⟨_, rfl, p, rfl, ⟨_, SqL.of (s1 _ _ hp)⟩, for_it (walk_list (K := K) (a := p) (xs := nums (List.range m))) (fun j σ H2 => Same H H2 ∧ ∃ v3 : Option V, σ = [some (.ref r), some (.ref p), some (.int (i : Int)), v3]) ⟨s1, v3, rfl⟩ ?_ ?_ ?_⟩
      · rintro j σ H2 _ ⟨s2, _⟩
        exact SqL.of (s2 _ _ hp)
      · rintro j u σ H2 H3 hj ⟨s2, v3, rfl⟩ ⟨rfl, hu⟩
        obtain ⟨hj', rfl⟩ := range_of hu
        refine ⟨_, rfl, _, rfl, (i : Int), (j : Int), rfl, rfl, _, rfl, ?_⟩
        by_cases c : (i : Int) < (j : Int)
        · rw [decide_eq_true c]
          refine iteT ⟨_, rfl, _, rfl, _, rfl, r, i, j, h, n, m, A, rfl, C, R.same s2, hi', hj', by omega, fun H4 s4 => ?_⟩
          refine ⟨true, rfl, iteF ?_⟩
          exact ⟨s2.trans s4, _, rfl⟩
        · rw [decide_eq_false c]
          refine iteF (iteF ?_)
          exact ⟨s2, _, rfl⟩
      · rintro σ H2 ⟨s2, v3, rfl⟩
        exact ⟨s2, _, _, rfl⟩
    · rintro σ H' ⟨s1, v2, v3, rfl⟩
      exact kq H' s1
end
end K40
namespace K40
open PySem PyProof.Rows L2
theorem tup_keep {K : PySem.W.Frag} {H : Hp} {D a : Addr} {zs ys xs : List V} (hD : H D = some (.lst zs)) (h : SqT K H a xs) : SqT K (upd H D (.lst ys)) a xs := by
  rcases h with (h | ⟨o, h⟩) | h
  · exact .inl (.inl (by rw [upd_ne (ne_of h hD (fun e => HO.noConfusion e))]; exact h))
  · exact .inl (.inr ⟨o, by rw [upd_ne (ne_of h hD (fun e => HO.noConfusion e))]; exact h⟩)
  · exact .inr h
theorem FR.keep {K : PySem.W.Frag} {H : Hp} {D a : Addr} {zs ys : List V} {q : Rat} (h : FR K H a q) (hD : H D = some (.lst zs)) : FR K (upd H D (.lst ys)) a q := tup_keep hD h
theorem one_lt {a : Ask} {h : Nat} (h0 : 0 < h) : decide ((a.one h : Int) < (a.oth h : Int)) = a.up := by
  unfold Ask.one Ask.oth
  cases a.up
  · simp only [Bool.false_eq_true, if_false]
    exact decide_eq_false (by omega)
  · simp only [if_true]
    exact decide_eq_true (by omega)
theorem min_p {a : Ask} {h : Nat} : (if (a.oth h : Int) < (a.one h : Int) then (a.oth h : Int) else (a.one h : Int)) = (a.p : Int) := by
  unfold Ask.one Ask.oth
  cases a.up
  · simp only [Bool.false_eq_true, if_false]
    split <;> omega
  · simp only [if_true]
    split <;> omega
section
variable {P : Program} {w : World} {K : PySem.W.Frag} {mg : Str → Option Value} {base : Heap}
/-! ### ways -/
def spOther : Sp := fun vs H Q _ => ∃ b : Bool, vs = [.str (way b)] ∧ Q (.str (way (!b))) H
theorem scOther : FnScope ["way"] ["way"] (defScope (top 24)) := ⟨rfl, rfl, rfl, by decide +kernel, rfl, by decide +kernel, by decide +kernel⟩
theorem way_on (b : Bool) : decide (V.str (way b) = V.str "on") = b := (way_eq b true).trans (by cases b <;> rfl)
theorem d_other (T : Top K mg) : Ok P w K mg base 1 "other_way" ["way"] spOther := by
  refine mk_ok (k := 0) T.other_way scOther (fun vs H Q E h => ?_) (fun _ _ _ _ _ _ us hl => match us, hl with | [_], _ => rfl) (fun f cdv A outer s H vs Q E hr h => ?_)
  · obtain ⟨_, rfl, _⟩ := h
    rfl
  · obtain ⟨b, rfl, kq⟩ := h
    obtain ⟨t1, g1⟩ := T.on
    obtain ⟨t2, g2⟩ := T.back
    refine ⟨_, pss_one (ps_ret (pe_ifExp (pt_cmpR op_eq (pv 0) (pe_glob (v := .str "on") rfl g1 ⟨t1, rfl⟩) (nomark _)) (pe_glob (v := .str "back") rfl g2 ⟨t2, rfl⟩) (pe_glob (v := .str "on") rfl g1 ⟨t1, rfl⟩))), ?_⟩
    refine ⟨_, rfl, rfl, _, rfl, ?_⟩
    rw [way_on]
    cases b
    · exact iteF kq
    · exact iteT kq
def spRise (K : PySem.W.Frag) : Sp := fun vs H Q _ => ∃ (r : Addr) (k h n m : Nat) (A : Nat → Ask), vs = [.ref r, .int (k : Int)] ∧ 0 < h ∧ RingAt K H h n m r A ∧ k < m ∧ Q (.str (way (A k).up)) H
theorem scRise : FnScope ["ring", "k", "name", "one", "other", "size"] ["ring", "k"] (defScope (top 47)) := ⟨rfl, rfl, rfl, by decide +kernel, rfl, by decide +kernel, by decide +kernel⟩
theorem d_rise (T : Top K mg) : Ok P w K mg base 1 "rising_way" ["ring", "k"] (spRise K) := by
  refine mk_ok (k := 0) T.rising_way scRise (fun vs H Q E h => ?_) (fun _ _ _ _ _ _ us hl => match us, hl with | [_, _], _ => rfl) (fun f cdv A outer s H vs Q E hr h => ?_)
  · obtain ⟨_, _, _, _, _, _, rfl, _⟩ := h
    rfl
  · obtain ⟨r, k, h, n, m, A, rfl, h0, R, hk, kq⟩ := h
    obtain ⟨t1, g1⟩ := T.on
    obtain ⟨t2, g2⟩ := T.back
    refine ⟨_, pss_cons (ps_asg (pe_ix ix_list (pe_ix ix_tup (pv 0) pe_int (fun _ _ => rfl)) (pv 1) (fun _ _ => rfl))
          (pg_tup (by rfl) (pgs_cons (pg_name (i := 2) scRise.nd rfl (.inl rfl)) (pgs_cons (pg_name (i := 3) scRise.nd rfl (.inl rfl)) (pgs_cons (pg_name (i := 4) scRise.nd rfl (.inl rfl)) (pgs_cons (pg_name (i := 5) scRise.nd rfl (.inl rfl)) pgs_nil))))))
      (pss_cons (ps_if (pt_cmpR op_lt (pv 3) (pv 4) (nomark _)) (pss_one (ps_ret (pe_glob (v := .str "on") rfl g1 ⟨t1, rfl⟩))) pss_nil)
      (pss_one (ps_ret (pe_glob (v := .str "back") rfl g2 ⟨t2, rfl⟩)))), ?_⟩
    refine r_ask rfl rfl R hk fun x nm s hx _ => ?_
    refine ⟨x, _, rfl, SqT.of hx, rfl, _, _, rfl, _, _, rfl, _, _, rfl, _, _, rfl, rfl, ?_⟩
    refine ⟨_, rfl, _, rfl, _, _, rfl, rfl, _, rfl, ?_⟩
    rw [one_lt h0]
    cases e : (A k).up
    · rw [e] at kq
      exact iteF kq
    · rw [e] at kq
      exact iteT kq
def spGone (K : PySem.W.Frag) : Sp := fun vs H Q _ => ∃ (r sd : Addr) (k h n m : Nat) (A : Nat → Ask) (q : Nat → Rat) (b : Bool), vs = [.ref r, .ref sd, .int (k : Int), .str (way b)] ∧ Cxt K H h n m r sd A q ∧ k < m ∧
  ∀ (H' : Hp) (p : Addr), Same H H' → FR K H' p (gone (A k) (q k) b) → Q (.ref p) H'
theorem scGone : FnScope ["ring", "sending", "k", "way"] ["ring", "sending", "k", "way"] (defScope (top 36)) := ⟨rfl, rfl, rfl, by decide +kernel, rfl, by decide +kernel, by decide +kernel⟩
theorem d_gone (T : Top K mg) : Ok P w K mg base 4 "gone_by" ["ring", "sending", "k", "way"] (spGone K) := by
  have D1 : Ok P w K mg base 3 "minus" ["one", "other"] (spBin K fun q r => q - r) := d_minus T
  refine mk_ok (k := 3) T.gone_by scGone (fun vs H Q E h => ?_) (fun _ _ _ _ _ _ us hl => match us, hl with | [_, _, _, _], _ => rfl) (fun f cdv A outer s H vs Q E hr h => ?_)
  · obtain ⟨_, _, _, _, _, _, _, _, _, rfl, _⟩ := h
    rfl
  · obtain ⟨r, sd, k, h, n, m, A, q, b, rfl, C, hk, kq⟩ := h
    obtain ⟨t1, g1⟩ := T.on
    refine ⟨_, pss_cons (ps_if (pt_cmpR op_eq (pv 3) (pe_glob (v := .str "on") rfl g1 ⟨t1, rfl⟩) (nomark _)) (pss_one (ps_ret (pe_ix ix_list (pv 1) (pv 2) (fun _ _ => rfl)))) pss_nil)
      (pss_one (ps_ret (pe_def D1 hr (by rfl) (pa_cons (pe_ix ix_tup (pe_ix ix_list (pe_ix ix_tup (pv 0) pe_int (fun _ _ => rfl)) (pv 2) (fun _ _ => rfl)) pe_int (fun _ _ => rfl)) (pa_cons (pe_ix ix_list (pv 1) (pv 2) (fun _ _ => rfl)) pa_nil))))), ?_⟩
    refine ⟨_, rfl, rfl, _, rfl, ?_⟩
    rw [way_on]
    cases b
    · refine iteF ?_
      refine r_size (k := k) rfl rfl C.ring hk fun z hz => ?_
      refine r_part (k := k) rfl rfl C.send hk fun x hx => ?_
      exact ⟨z, x, _, _, rfl, hz, hx, bd50 C.ch hk, bd100 C.st hk, fun H' p hs hp => kq H' p hs hp⟩
    · refine iteT ?_
      refine r_part (k := k) rfl rfl C.send hk fun x hx => ?_
      exact kq H x (Same.refl H) hx
theorem gone_bd {a : Ask} {q : Rat} (b : Bool) (h1 : Bd 50 a.s) (h2 : Bd 100 q) : Bd 3900 (gone a q b) := by
  unfold gone
  cases b
  · exact (h1.sub h2).mono (by decide)
  · exact h2.mono (by decide)
def spGain (K : PySem.W.Frag) : Sp := fun vs H Q _ => ∃ (r sd : Addr) (k h n m : Nat) (A : Nat → Ask) (q : Nat → Rat) (b : Bool), vs = [.ref r, .ref sd, .int (k : Int), .str (way b)] ∧ Cxt K H h n m r sd A q ∧ k < m ∧
  ∀ (H' : Hp) (p : Addr), Same H H' → FR K H' p (row (A k) (q k) b) → Q (.ref p) H'
theorem scGain : FnScope ["ring", "sending", "k", "way", "gone"] ["ring", "sending", "k", "way"] (defScope (top 48)) := ⟨rfl, rfl, rfl, by decide +kernel, rfl, by decide +kernel, by decide +kernel⟩
theorem d_gain (T : Top K mg) : Ok P w K mg base 5 "gain_by" ["ring", "sending", "k", "way"] (spGain K) := by
  have D1 : Ok P w K mg base 4 "gone_by" ["ring", "sending", "k", "way"] (spGone K) := d_gone T
  have D2 : Ok P w K mg base 1 "rising_way" ["ring", "k"] (spRise K) := d_rise T
  have D3 : Ok P w K mg base 3 "minus" ["one", "other"] (spBin K fun q r => q - r) := d_minus T
  refine mk_ok (k := 4) T.gain_by scGain (fun vs H Q E h => ?_) (fun _ _ _ _ _ _ us hl => match us, hl with | [_, _, _, _], _ => rfl) (fun f cdv A outer s H vs Q E hr h => ?_)
  · obtain ⟨_, _, _, _, _, _, _, _, _, rfl, _⟩ := h
    rfl
  · obtain ⟨r, sd, k, h, n, m, A, q, b, rfl, C, hk, kq⟩ := h
    obtain ⟨a0, g0, t0⟩ := T.nought
    have h0 : 0 < h := by
      have := C.ch.h2
      omega
    refine ⟨_, pss_cons (ps_set (i := 4) scGain.nd rfl (.inl rfl) (pe_def D1 hr (by rfl) (pa_cons (pv 0) (pa_cons (pv 1) (pa_cons (pv 2) (pa_cons (pe_def D2 (hr.mono (by decide)) (by rfl) (pa_cons (pv 0) (pa_cons (pv 2) pa_nil))) pa_nil))))))
      (pss_cons (ps_if (pt_cmpR op_eq (pv 3) (pe_def D2 (hr.mono (by decide)) (by rfl) (pa_cons (pv 0) (pa_cons (pv 2) pa_nil))) (nomark _))
        (pss_one (ps_ret (pe_def D3 (hr.mono (by decide)) (by rfl) (pa_cons (pe_ix ix_tup (pe_ix ix_list (pe_ix ix_tup (pv 0) pe_int (fun _ _ => rfl)) (pv 2) (fun _ _ => rfl)) pe_int (fun _ _ => rfl)) (pa_cons (pv 4) pa_nil))))) pss_nil)
      (pss_one (ps_ret (pe_def D3 (hr.mono (by decide)) (by rfl) (pa_cons (pe_glob (v := .ref a0) rfl g0 rfl) (pa_cons (pv 4) pa_nil)))))), ?_⟩
    refine ⟨_, rfl, _, rfl, _, rfl, _, rfl, _, rfl, r, k, h, n, m, A, rfl, h0, C.ring, hk, ?_⟩
    refine ⟨r, sd, k, h, n, m, A, q, (A k).up, rfl, C, hk, fun H1 p1 s1 hp1 => ?_⟩
    have C1 := C.same s1
    refine ⟨_, rfl, _, rfl, _, rfl, r, k, h, n, m, A, rfl, h0, C1.ring, hk, rfl, _, rfl, ?_⟩
    have hg := gone_bd (a := A k) (q := q k) (A k).up (C.ch.bd k hk) (C.st.bd k hk)
    have er : row (A k) (q k) b = if b = (A k).up then (A k).s - gone (A k) (q k) (A k).up else 0 - gone (A k) (q k) (A k).up := (gain_row _ _ _).symm
    rw [way_eq]
    by_cases e : b = (A k).up
    · rw [beq_iff_eq.mpr e]
      refine iteT ?_
      rw [if_pos e] at er
      refine r_size (k := k) rfl rfl C1.ring hk fun z hz => ?_
      exact ⟨_, rfl, z, p1, _, _, rfl, hz, hp1, bd50 C.ch hk, hg, fun H' p hs hp => kq H' p (s1.trans hs) (by rw [er]; exact hp)⟩
    · rw [beq_eq_false_iff_ne.mpr e]
      refine iteF ?_
      rw [if_neg e] at er
      exact ⟨_, rfl, a0, p1, 0, _, rfl, fr0 (t0 _), hp1, bd0.mono (by decide), hg, fun H' p hs hp => kq H' p (s1.trans hs) (by rw [er]; exact hp)⟩
/-! ### the greatest half -/
def spHalf (K : PySem.W.Frag) : Sp := fun vs H Q _ => ∃ (r p : Addr) (h n m : Nat) (A : Nat → Ask), vs = [.ref r, .ref p] ∧ Chain h n m A ∧ RingAt K H h n m r A ∧ H p = some (.lst (nums (List.range m))) ∧
  ∀ (H' : Hp) (x : Addr), Same H H' → FR K H' x (most A m * hf) → Q (.ref x) H'
theorem scHalf : FnScope ["ring", "some", "found", "k"] ["ring", "some"] (defScope (top 50)) := ⟨rfl, rfl, rfl, by decide +kernel, rfl, by decide +kernel, by decide +kernel⟩
theorem d_half (T : Top K mg) : Ok P w K mg base 4 "half_of_greatest" ["ring", "some"] (spHalf K) := by
  have D1 : Ok P w K mg base 2 "greater" ["one", "other"] (spGreat K) := d_greater T
  have D2 : Ok P w K mg base 3 "times" ["one", "other"] (spBin K fun q r => q * r) := d_times T
  refine mk_ok (k := 3) T.half scHalf (fun vs H Q E h => ?_) (fun _ _ _ _ _ _ us hl => match us, hl with | [_, _], _ => rfl) (fun f cdv A outer s H vs Q E hr h => ?_)
  · obtain ⟨_, _, _, _, _, _, rfl, _⟩ := h
    rfl
  · obtain ⟨r, p, h, n, m, A, rfl, C, R, hp, kq⟩ := h
    obtain ⟨a0, g0, t0⟩ := T.nought
    refine ⟨_, pss_cons (ps_set (i := 2) scHalf.nd rfl (.inl rfl) (pe_glob (v := .ref a0) rfl g0 rfl))
      (pss_cons (ps_for PassesOwn.never rfl (pi_list (pv 1)) (pg_name (i := 3) scHalf.nd rfl (.inl rfl))
        (pss_one (ps_set (i := 2) scHalf.nd rfl (.inl rfl) (pe_def D1 (hr.mono (by decide)) (by rfl) (pa_cons (pv 2) (pa_cons (pe_ix ix_tup (pe_ix ix_list (pe_ix ix_tup (pv 0) pe_int (fun _ _ => rfl)) (pv 3) (fun _ _ => rfl)) pe_int (fun _ _ => rfl)) pa_nil))))))
      (pss_one (ps_ret (pe_def D2 hr (by rfl) (pa_cons (pv 2) (pa_cons (pe_tup (pa_cons pe_int (pa_cons pe_int pa_nil))) pa_nil)))))), ?_⟩
    refine ⟨_, rfl, p, rfl, ⟨_, SqL.of hp⟩, for_it (walk_list (K := K) (a := p) (xs := nums (List.range m))) (fun i σ H' => H' = H ∧ ∃ (x : Addr) (v3 : Option V), σ = [some (.ref r), some (.ref p), some (.ref x), v3] ∧ FR K H x (most A i)) ⟨rfl, a0, none, rfl, fr0 (t0 H)⟩ ?_ ?_ ?_⟩
    · rintro i σ H' _ ⟨rfl, _⟩
      exact SqL.of hp
    · rintro i v σ H' H'' hi ⟨rfl, x, v3, rfl, hx⟩ ⟨rfl, hv⟩
      obtain ⟨hi', rfl⟩ := range_of hv
      refine ⟨_, rfl, ?_⟩
      refine r_size (k := i) (i := 0) (j := 3) rfl rfl R hi' fun z hz => ?_
      refine ⟨x, z, _, _, rfl, hx, hz, (most_bd fun k hk => C.bd k (by omega)).mono (by decide), bd50 C hi', fun y hy => ?_⟩
      exact ⟨rfl, y, _, rfl, hy⟩
    · rintro σ H' ⟨rfl, x, v3, rfl, hx⟩
      rw [nums_len, List.length_range] at hx
      refine ⟨_, rfl, (by show 2 ≤ sizeLine; decide), fun t ht => ?_⟩
      have s1 : Same H' (upd H' t (.tup [.int 1, .int 2])) := same_new ht
      exact ⟨x, t, _, hf, rfl, hx.same s1, .inl (.inl upd_same), (most_bd C.bd).mono (by decide), bdH.mono (by decide), fun H2 y s2 hy => kq H2 y (s1.trans s2) hy⟩
def spNo : Sp := fun _ _ _ _ => False
theorem scGoes : FnScope ["ring", "sending", "k", "way"] ["ring", "sending", "k", "way"] (defScope (top 51)) := ⟨rfl, rfl, rfl, by decide +kernel, rfl, by decide +kernel, by decide +kernel⟩
theorem d_goes (T : Top K mg) : Ok P w K mg base 1 "goes_whole" ["ring", "sending", "k", "way"] spNo :=
  mk_ok (k := 0) T.goes_whole scGoes (fun vs H Q E h => h.elim) (fun _ _ _ _ _ _ us hl => match us, hl with | [_, _, _, _], _ => rfl) (fun f cdv A outer s H vs Q E hr h => h.elim)
end
end K40
namespace K40
open PySem PyProof.Rows L2
section
variable {P : Program} {w : World} {K : PySem.W.Frag} {mg : Str → Option Value} {base : Heap}
def put (g : Nat → Addr) (i : Nat) (p : Addr) : Nat → Addr := fun k => if k = i then p else g k
theorem put_same (g : Nat → Addr) (i : Nat) (p : Addr) : put g i p i = p := if_pos rfl
theorem put_ne (g : Nat → Addr) (i : Nat) (p : Addr) {k : Nat} (h : k ≠ i) : put g i p k = g k := if_neg h
theorem refs_put (i : Nat) (g : Nat → Addr) (p : Addr) : refs i g ++ [V.ref p] = refs (i + 1) (put g i p) := refs_snoc i g p
theorem refs_set (n j : Nat) (g : Nat → Addr) (p : Addr) : (refs n g).set j (V.ref p) = refs n (put g j p) := by
  refine List.ext_getElem? fun i => ?_
  rw [List.getElem?_set]
  by_cases hi : i < n
  · rw [refs_at hi, refs_at hi, refs_len]
    by_cases e : j = i
    · subst e
      rw [if_pos rfl, if_pos hi, put_same]
    · rw [if_neg e, put_ne _ _ _ (fun z => e z.symm)]
  · rw [List.getElem?_eq_none (by rw [refs_len]; omega), List.getElem?_eq_none (by rw [refs_len]; omega)]
    split
    · rw [if_neg (by rw [refs_len]; omega)]
    · rfl
/-! ### the order of the lesser places -/
theorem ord_of {m : Nat} {A : Nat → Ask} : (List.range m).mergeSort (fun k j => decide (((A k).p : Int) ≤ ((A j).p : Int))) = ord m A := by
  unfold ord
  refine congrArg (fun le => (List.range m).mergeSort le) ?_
  funext k j
  exact decide_eq_decide.mpr Int.ofNat_le
theorem hu5 {A : Around} {k : Nat} (hr : Room k A) : A.units + 5 < cLine := Nat.lt_of_le_of_lt (Nat.add_le_add_left (by decide : 5 ≤ 64) _) hr.units
theorem alike_int (x y : Int) : PySem.W.alike (.int x) (.int y) = true := by simp [PySem.W.alike]
def spOrder (K : PySem.W.Frag) : Sp := fun vs H Q _ => ∃ (r p : Addr) (h n m : Nat) (A : Nat → Ask), vs = [.ref r, .ref p] ∧ Chain h n m A ∧ RingAt K H h n m r A ∧ H p = some (.lst (nums (List.range m))) ∧
  ∀ (H' : Hp) (x : Addr), Same H H' → H' x = some (.lst (nums (ord m A))) → Q (.ref x) H'
theorem scOrder : FnScope ["ring", "some", "k", "place"] ["ring", "some"] (defScope (top 49)) := ⟨rfl, rfl, rfl, by decide +kernel, rfl, by decide +kernel, by decide +kernel⟩
theorem nums_snoc {l : List Nat} {i k : Nat} (h : l[i]? = some k) : nums (l.take (i + 1)) = nums (l.take i) ++ [V.int (k : Int)] := by
  unfold nums
  rw [take_snoc h, List.map_append]
  rfl
theorem d_order (T : Top K mg) : Ok P w K mg base 1 "in_order" ["ring", "some"] (spOrder K) := by
  refine mk_ok (k := 0) T.in_order scOrder (fun vs H Q E h => ?_) (fun _ _ _ _ _ _ us hl => match us, hl with | [_, _], _ => rfl) (fun f cdv A outer s H vs Q E hr h => ?_)
  · obtain ⟨_, _, _, _, _, _, rfl, _⟩ := h
    rfl
  · obtain ⟨r, p, h, n, m, A, rfl, C, R, hp, kq⟩ := h
    refine ⟨_, pss_one (ps_ret (pe_lc (own := [("place", 3), ("k", 2)]) (g := gTup K 2 _) rfl scOrder.nd
        (pi_list (pe_callB (cr_sortX (hu5 hr)) (by rfl) T.sorted (by decide +kernel) (pa_cons
          (pe_lc (own := [("k", 2)]) (g := gName 2) rfl scOrder.nd (pi_list (pv 1)) (blkOk_by (N := ["ring", "some", "k", "place"]) (sc := defScope (top 49)) (by decide +kernel))
            (fun _ _ _ _ _ => pg_name (i := 2) scOrder.nd rfl (Or.inl rfl)) (fun _ _ _ _ _ => pts_nil)
            (fun _ _ _ _ _ => pe_tup (pa_cons (pe_callB (id := "min") (r := rMinT K) (cr_minT rfl (hu_of hr)) (by rfl) T.min (by decide +kernel) (pa_cons (pe_slice (r := rSlT K) sl_tup (pe_ix (r := rIxL K) ix_list (pe_ix (r := rIxT K) ix_tup (pv 0) pe_int (fun _ _ => rfl)) (pv 2) (fun _ _ => rfl)) (po_some pe_int) (po_some pe_int)) pa_nil)) (pa_cons (pv 2) pa_nil)))) pa_nil)))
        (blkOk_by (N := ["ring", "some", "k", "place"]) (sc := defScope (top 49)) (by decide +kernel))
        (fun _ _ _ _ _ => pg_tup (by rfl) (pgs_cons (pg_name (i := 3) scOrder.nd rfl (Or.inl rfl)) (pgs_cons (pg_name (i := 2) scOrder.nd rfl (Or.inl rfl)) pgs_nil))) (fun _ _ _ _ _ => pts_nil) (fun _ _ _ _ _ => pv 2))), ?_⟩
    refine ⟨_, rfl, p, rfl, ⟨_, SqL.of hp⟩, fun D hD => ?_⟩
    refine lc_it (walk_list (K := K) (a := p) (xs := nums (List.range m))) (fun i H' => Same H H' ∧ ∃ g : Nat → Addr, H' D = some (.lst (refs i g)) ∧ ∀ k, k < i → H' (g k) = some (.tup [.int ((A k).p : Int), .int (k : Int)]))
      ⟨same_new hD, fun _ => 0, upd_same, fun k hk => absurd hk (Nat.not_lt_zero k)⟩ ?_ ?_ ?_
    · rintro i H' _ ⟨s1, _⟩
      exact SqL.of (s1 _ _ hp)
    · rintro i v H' H'' hi ⟨s1, g, hg, hgs⟩ ⟨rfl, hv⟩
      obtain ⟨hi', rfl⟩ := range_of hv
      refine ⟨rfl, ?_⟩
      refine r_ask (k := i) rfl rfl (R.same s1) hi' fun x nm sz hx _ => ?_
      refine ⟨1, rfl, 3, rfl, x, _, rfl, SqT.of hx, (by show ¬ (HT.sIx 4 0 (some 1) = 0 ∧ HT.sIx 4 4 (some 3) = 4); decide), fun p1 hp1 => ?_⟩
      refine ⟨p1, ((A i).one h : Int), ((A i).oth h : Int), rfl, tup_new, ?_⟩
      rw [min_p]
      refine ⟨_, rfl, (by show 2 ≤ sizeLine; decide), fun p2 hp2 => ?_⟩
      have s2 := same_new (o := .tup (cutV [V.str nm, .int ((A i).one h : Int), .int ((A i).oth h : Int), .ref sz] (some 1) (some 3))) hp1
      have s3 := same_new (o := .tup [.int ((A i).p : Int), .int (i : Int)]) hp2
      have s4 := s2.trans s3
      have hD4 := s4 _ _ hg
      refine ⟨refs i g, hD4, ?_, same_mut (s1.trans s4) hD, put g i p2, ?_, fun k hk => ?_⟩
      · rw [refs_len]
        have := C.m5
        exact small5 (by omega)
      · rw [upd_same, refs_put]
      · by_cases e : k = i
        · subst e
          rw [put_same, upd_ne (ne_of (upd_same (a := p2)) hD4 (fun e => HO.noConfusion e)), upd_same]
        · rw [put_ne _ _ _ e]
          have hk2 := s4 _ _ (hgs k (by omega))
          rw [upd_ne (ne_of hk2 hD4 (fun e => HO.noConfusion e))]
          exact hk2
    · rintro H1 ⟨s1, g, hg, hgs⟩
      rw [nums_len, List.length_range] at hg hgs
      refine ⟨D, List.range m, g, fun k => ((A k).p : Int), fun k => .int (k : Int), rfl, SqL.of hg, fun k hk => ⟨_, SqT.of (hgs k (List.mem_range.mp hk)), .int _⟩, fun k j => alike_int _ _, fun k => by simp [PyData.depth], fun k hk j hj e => ?_, fun S hS => ?_⟩
      · exact C.inj k j (List.mem_range.mp hk) (List.mem_range.mp hj) (Int.ofNat.inj e)
      rw [ord_of]
      have s2 := same_new (o := .lst ((ord m A).map fun k => V.ref (g k))) hS
      refine ⟨S, rfl, ⟨_, SqL.of upd_same⟩, fun D2 hD2 => ?_⟩
      refine lc_it (walk_list (K := K) (a := S) (xs := (ord m A).map fun k => V.ref (g k))) (fun i H' => H' = upd (upd H1 S (.lst ((ord m A).map fun k => V.ref (g k)))) D2 (.lst (nums ((ord m A).take i)))) rfl ?_ ?_ ?_
      · rintro i H' _ rfl
        exact (same_new hD2).seq (SqL.of upd_same)
      · rintro i v H' H'' hi rfl ⟨rfl, hv⟩
        obtain ⟨k, hk, rfl⟩ : ∃ k, (ord m A)[i]? = some k ∧ v = V.ref (g k) := by
          rw [List.getElem?_map] at hv
          cases e : (ord m A)[i]? with
          | none =>
            rw [e] at hv
            cases hv
          | some k =>
            rw [e] at hv
            exact ⟨k, rfl, (Option.some.inj hv).symm⟩
        have hkm := ord_mem (List.mem_of_getElem? hk)
        have ht := (s2.trans (same_new (o := .lst (nums ((ord m A).take i))) hD2)) _ _ (hgs k hkm)
        refine ⟨_, _, rfl, SqT.of ht, rfl, _, _, rfl, _, _, rfl, rfl, rfl, ?_⟩
        refine ⟨_, rfl, _, upd_same, ?_, ?_⟩
        · rw [nums_len, List.length_take, ord_len]
          have := C.m5
          exact small5 (by omega)
        · rw [upd_upd, nums_snoc hk]
      · rintro H' rfl
        have hlen : ((ord m A).map fun k => V.ref (g k)).length = (ord m A).length := List.length_map _
        rw [hlen, List.take_length]
        exact kq _ D2 ((s1.trans s2).trans (same_new hD2)) upd_same
end
end K40
namespace K40
open PySem PyProof.Rows L2
theorem walk_enumR {K : PySem.W.Frag} {a : Addr} {m : Nat} {g : Nat → Addr} : Walk (Ite K a) m (fun H => SqL K H a (refs m g)) (fun i H v H' => ∃ T, v = .ref T ∧ H T = none ∧ H' = upd H T (.tup [.int (i : Int), .ref (g i)])) := by
  have hw := (walk_enum (K := K) (a := a) (xs := refs m g)).mono (G' := fun H => SqL K H a (refs m g)) (Y' := fun i H v H' => ∃ T, v = .ref T ∧ H T = none ∧ H' = upd H T (.tup [.int (i : Int), .ref (g i)])) (fun _ h => h) (fun i H v H' hi _ y => by
    obtain ⟨T, x, z, h1, h2, h3, h4, h5⟩ := y
    have h4' : V.int (i : Int) = x := Option.some.inj h4
    rw [refs_len] at hi
    have h5' : V.ref (g i) = z := Option.some.inj ((refs_at hi).symm.trans h5)
    subst h4' h5'
    exact ⟨T, h1, h2, h3⟩)
  rw [refs_len] at hw
  exact hw
section
variable {P : Program} {w : World} {K : PySem.W.Frag} {mg : Str → Option Value} {base : Heap}
/-! ### ties -/
def spOver (K : PySem.W.Frag) : Sp := fun vs H Q _ => ∃ (r : Addr) (k t h n m : Nat) (A : Nat → Ask), vs = [.ref r, .int (k : Int), .str "on", .int (t : Int)] ∧ 0 < n ∧ RingAt K H h n m r A ∧ k < m ∧ Q (.bl (over (A k) h n t)) H
theorem scOver : FnScope ["ring", "k", "way", "tie", "name", "one", "other", "size", "many", "goes_on"] ["ring", "k", "way", "tie"] (defScope (top 26)) := ⟨rfl, rfl, rfl, by decide +kernel, rfl, by decide +kernel, by decide +kernel⟩
theorem d_over (T : Top K mg) : Ok P w K mg base 1 "is_over" ["ring", "k", "way", "tie"] (spOver K) := by
  refine mk_ok (k := 0) T.is_over scOver (fun vs H Q E h => ?_) (fun _ _ _ _ _ _ us hl => match us, hl with | [_, _, _, _], _ => rfl) (fun f cdv A outer s H vs Q E hr h => ?_)
  · obtain ⟨_, _, _, _, _, _, _, rfl, _⟩ := h
    rfl
  · obtain ⟨r, k, t, h, n, m, A, rfl, h0, R, hk, kq⟩ := h
    obtain ⟨t1, g1⟩ := T.on
    refine ⟨_, pss_cons (ps_asg (pe_ix ix_list (pe_ix ix_tup (pv 0) pe_int (fun _ _ => rfl)) (pv 1) (fun _ _ => rfl))
          (pg_tup (by rfl) (pgs_cons (pg_name (i := 4) scOver.nd rfl (.inl rfl)) (pgs_cons (pg_name (i := 5) scOver.nd rfl (.inl rfl)) (pgs_cons (pg_name (i := 6) scOver.nd rfl (.inl rfl)) (pgs_cons (pg_name (i := 7) scOver.nd rfl (.inl rfl)) pgs_nil))))))
      (pss_cons (ps_set (i := 8) scOver.nd rfl (.inl rfl) (pe_callB call_len_seq (by rfl) T.len PySem.boot_len (pa_cons (pe_ix ix_tup (pv 0) pe_int (fun _ _ => rfl)) pa_nil)))
      (pss_cons (ps_set (i := 9) scOver.nd rfl (.inl rfl) (pe_cmpR op_lt (pe_op op_modN (pe_op op_sub (pv 3) (pv 5)) (pv 8)) (pe_op op_modN (pe_op op_sub (pv 6) (pv 5)) (pv 8)) (nomark _)))
      (pss_one (ps_ret (pe_cmpR op_eq (pv 9) (pe_cmpR op_eq (pv 2) (pe_glob (v := .str "on") rfl g1 ⟨t1, rfl⟩) (nomark _)) (nomark _)))))), ?_⟩
    refine r_ask rfl rfl R hk fun x nm s hx _ => ?_
    refine ⟨x, _, rfl, SqT.of hx, rfl, _, _, rfl, _, _, rfl, _, _, rfl, _, _, rfl, rfl, ?_⟩
    refine r_rooms rfl R fun rm xs hrm hl => ?_
    refine ⟨rm, xs, rfl, .inl (SqL.of hrm), ?_⟩
    rw [hl]
    have hn : (n : Int) ≠ 0 := by omega
    refine ⟨_, rfl, _, rfl, _, _, rfl, rfl, _, rfl, _, _, rfl, rfl, hn, _, rfl, _, rfl, _, _, rfl, rfl, _, rfl, _, _, rfl, rfl, hn, _, _, rfl, rfl, ?_⟩
    refine ⟨_, rfl, _, rfl, rfl, rfl, ?_⟩
    have e : decide (V.bl (decide (((t : Int) - ((A k).one h : Int)).fmod (n : Int) < (((A k).oth h : Int) - ((A k).one h : Int)).fmod (n : Int))) = V.bl (decide (V.str "on" = V.str "on"))) = over (A k) h n t := by
      rw [Int.fmod_eq_emod_of_nonneg _ (by omega), Int.fmod_eq_emod_of_nonneg _ (by omega)]
      show decide (V.bl (over (A k) h n t) = V.bl (decide (V.str "on" = V.str "on"))) = over (A k) h n t
      rw [decide_eq_true (rfl : V.str "on" = V.str "on")]
      cases over (A k) h n t <;> rfl
    show Q (V.bl (decide (V.bl (decide (((t : Int) - ((A k).one h : Int)).fmod (n : Int) < (((A k).oth h : Int) - ((A k).one h : Int)).fmod (n : Int))) = V.bl (decide (V.str "on" = V.str "on"))))) H
    rw [e]
    exact kq
theorem lays_bd {a : Ask} {h n t : Nat} {q : Rat} (h1 : Bd 50 a.s) (h2 : Bd 100 q) : Bd 151 (lays a h n t q) := by
  unfold lays
  split
  · exact h2.mono (by decide)
  · exact h1.sub h2
theorem load_bd {A : Nat → Ask} {h n t : Nat} {q : Nat → Rat} {k : Nat} (hk : k ≤ 5) (h1 : ∀ j, j < k → Bd 50 (A j).s) (h2 : ∀ j, j < k → Bd 100 (q j)) : Bd 800 (load A h n t q k) := by
  unfold load
  refine (sumL_bd (B := 151) fun j hj => lays_bd (h1 j (List.mem_range.mp hj)) (h2 j (List.mem_range.mp hj))).mono ?_
  rw [List.length_range]
  omega
def spLoads (K : PySem.W.Frag) : Sp := fun vs H Q _ => ∃ (r sd : Addr) (h n m : Nat) (A : Nat → Ask) (q : Nat → Rat), vs = [.ref r, .ref sd] ∧ Chain h n m A ∧ RingAt K H h n m r A ∧ SendAt K H m sd q ∧ (∀ k, k < m → Bd 100 (q k)) ∧
  ∀ (H' : Hp) (p : Addr), Same H H' → SendAt K H' n p (fun t => load A h n t q m) → Q (.ref p) H'
theorem scLoads : FnScope ["ring", "sending", "loads", "k", "part", "rest", "tie"] ["ring", "sending"] (defScope (top 28)) := ⟨rfl, rfl, rfl, by decide +kernel, rfl, by decide +kernel, by decide +kernel⟩
theorem rep_refs (n : Nat) (a : Addr) : (List.replicate n [V.ref a]).flatten = refs n fun _ => a := by
  induction n with
  | zero => rfl
  | succ n ih =>
    rw [refs_succ, ← ih]
    show (List.replicate (n + 1) [V.ref a]).flatten = (List.replicate n [V.ref a]).flatten ++ [V.ref a]
    rw [List.replicate_succ', List.flatten_append]
    rfl
theorem d_loads (T : Top K mg) : Ok P w K mg base 4 "loads_of" ["ring", "sending"] (spLoads K) := by
  have D1 : Ok P w K mg base 3 "minus" ["one", "other"] (spBin K fun q r => q - r) := d_minus T
  have D2 : Ok P w K mg base 3 "plus" ["one", "other"] (spBin K fun q r => q + r) := d_plus T
  have D3 : Ok P w K mg base 1 "is_over" ["ring", "k", "way", "tie"] (spOver K) := d_over T
  refine mk_ok (k := 3) T.loads_of scLoads (fun vs H Q E h => ?_) (fun _ _ _ _ _ _ us hl => match us, hl with | [_, _], _ => rfl) (fun f cdv A outer s H vs Q E hr h => ?_)
  · obtain ⟨_, _, _, _, _, _, _, rfl, _⟩ := h
    rfl
  · obtain ⟨r, sd, h, n, m, A, q, rfl, C, R, S, hb, kq⟩ := h
    obtain ⟨a0, g0, t0⟩ := T.nought
    obtain ⟨t1, g1⟩ := T.on
    have hn0 : 0 < n ∧ n ≤ 11 := by
      have := C.h2
      have := C.h5
      have := C.n2
      omega
    refine ⟨_, pss_cons (ps_set (i := 2) scLoads.nd rfl (.inl rfl) (pe_op op_rep (pe_lst (pa_cons (pe_glob (v := .ref a0) rfl g0 rfl) pa_nil)) (pe_callB call_len_seq (by rfl) T.len PySem.boot_len (pa_cons (pe_ix ix_tup (pv 0) pe_int (fun _ _ => rfl)) pa_nil))))
      (pss_cons (ps_for PassesOwn.never rfl (pi_enum (by rfl) T.enumerate (pa_cons (pv 1) pa_nil)) (pg_tup (by rfl) (pgs_cons (pg_name (i := 3) scLoads.nd rfl (.inl rfl)) (pgs_cons (pg_name (i := 4) scLoads.nd rfl (.inl rfl)) pgs_nil)))
        (pss_cons (ps_set (i := 5) scLoads.nd rfl (.inl rfl) (pe_def D1 hr (by rfl) (pa_cons (pe_ix ix_tup (pe_ix ix_list (pe_ix ix_tup (pv 0) pe_int (fun _ _ => rfl)) (pv 3) (fun _ _ => rfl)) pe_int (fun _ _ => rfl)) (pa_cons (pv 4) pa_nil))))
        (pss_one (ps_for PassesOwn.never rfl (pi_range1 (by rfl) T.range (pa_cons (pe_callB call_len_seq (by rfl) T.len PySem.boot_len (pa_cons (pv 2) pa_nil)) pa_nil)) (pg_name (i := 6) scLoads.nd rfl (.inl rfl))
          (pss_one (ps_asg (pe_def D2 hr (by rfl) (pa_cons (pe_ix ix_list (pv 2) (pv 6) (fun _ _ => rfl)) (pa_cons (pe_ifExp (pt_val (pe_def D3 (hr.mono (by decide)) (by rfl) (pa_cons (pv 0) (pa_cons (pv 3) (pa_cons (pe_glob (v := .str "on") rfl g1 ⟨t1, rfl⟩) (pa_cons (pv 6) pa_nil)))))) (pv 4) (pv 5)) pa_nil)))
            (pg_sub (pv 2) (pv 6) set_list)))))))
      (pss_one (ps_ret (pv 2)))), ?_⟩
    -- loads = [NOUGHT] * len(ring[0])
    refine ⟨(by show 1 ≤ sizeLine; decide), fun l0 hl0 => ?_⟩
    have s0 := same_new (o := .lst [V.ref a0]) hl0
    refine r_rooms rfl (R.same s0) fun rm xs hrm hl => ?_
    refine ⟨rm, xs, rfl, .inl (SqL.of hrm), ?_⟩
    rw [hl]
    refine ⟨l0, _, _, rfl, rfl, upd_same, by omega, by omega, ?_, fun L hL => ?_⟩
    · rw [Int.toNat_natCast]
      show 1 * n ≤ sizeLine
      exact Nat.le_trans (by omega : 1 * n ≤ 11) (by decide)
    rw [Int.toNat_natCast, rep_refs]
    have s1 := s0.trans (same_new (o := .lst (refs n fun _ => a0)) hL)
    have hLH : H L = none := s0.free hL
    obtain ⟨fq, hq1, hq2⟩ := id S
    -- for k, part in enumerate(sending)
    refine ⟨_, rfl, sd, _, rfl, SqL.of (s1 _ _ hq1), for_it (walk_enumR (m := m) (g := fq)) (fun i σ H' => Same H H' ∧ SendAt K H' n L (fun t => load A h n t q i) ∧ ∃ v3 v4 v5 v6 : Option V, σ = [some (.ref r), some (.ref sd), some (.ref L), v3, v4, v5, v6])
      ⟨s1, ⟨_, upd_same, fun t ht => fr0 (t0 _)⟩, none, none, none, none, rfl⟩ ?_ ?_ ?_⟩
    · rintro i σ H' _ ⟨s2, _⟩
      exact SqL.of (s2 _ _ hq1)
    · rintro i v σ H1 H2 hi ⟨s2, SL, v3, v4, v5, v6, rfl⟩ ⟨T1, rfl, hT1, rfl⟩
      have s3 := same_new (o := .tup [.int (i : Int), .ref (fq i)]) hT1
      have hm5 := C.m5
      refine ⟨T1, _, rfl, SqT.of upd_same, rfl, _, _, rfl, _, _, rfl, rfl, ?_⟩
      have R2 := (R.same s2).same s3
      have hp2 : FR K (upd H1 T1 (.tup [.int (i : Int), .ref (fq i)])) (fq i) (q i) := ((hq2 i hi).same s2).same s3
      refine r_size (k := i) (i := 0) (j := 3) rfl rfl R2 hi fun z hz => ?_
      refine ⟨_, rfl, z, fq i, _, _, rfl, hz, hp2, bd50 C hi, (hb i hi).mono (by decide), fun H3 r1 s4 hr1 => ?_⟩
      have s5 := s2.trans (s3.trans s4)
      have SL3 := (SL.same s3).same s4
      have hp3 := hp2.same s4
      obtain ⟨fl, hl1, hl2⟩ := id SL3
      -- for tie in range(len(loads))
      refine ⟨_, rfl, L, _, rfl, .inl (SqL.of hl1), _, rfl, ?_⟩
      rw [refs_len]
      refine ⟨by omega, by omega, ?_⟩
      rw [Int.toNat_natCast]
      refine for_it walk_range0 (fun j σ H4 => Same H H4 ∧ SendAt K H4 n L (fun t => if t < j then load A h n t q (i + 1) else load A h n t q i) ∧ FR K H4 (fq i) (q i) ∧ FR K H4 r1 ((A i).s - q i) ∧ ∃ v6 : Option V, σ = [some (.ref r), some (.ref sd), some (.ref L), some (.int (i : Int)), some (.ref (fq i)), some (.ref r1), v6])
        ⟨s5, ?_, hp3, hr1, v6, rfl⟩ (fun _ _ _ _ _ => trivial) ?_ ?_
      · refine ⟨fl, hl1, fun t ht => ?_⟩
        show FR K H3 (fl t) (if t < 0 then load A h n t q (i + 1) else load A h n t q i)
        rw [if_neg (Nat.not_lt_zero t)]
        exact hl2 t ht
      · rintro j v σ H4 H5 hj ⟨s6, SL4, hpq, hrq, v6, rfl⟩ ⟨rfl, rfl⟩
        obtain ⟨f4, h41, h42⟩ := id SL4
        have h42 : ∀ t, t < n → FR K H5 (f4 t) (if t < j then load A h n t q (i + 1) else load A h n t q i) := h42
        have hj4 := h42 j hj
        rw [if_neg (Nat.lt_irrefl j)] at hj4
        have R4 := R.same s6
        refine ⟨_, rfl, _, rfl, L, _, _, _, rfl, rfl, SqL.of h41, atI_nat (refs_at hj), ?_⟩
        refine ⟨_, rfl, _, rfl, _, rfl, r, i, j, h, n, m, A, rfl, hn0.1, R4, hi, _, rfl, ?_⟩
        have el : lays (A i) h n j (q i) = if over (A i) h n j then q i else (A i).s - q i := rfl
        obtain ⟨x, hx, pick⟩ : ∃ x : Addr, FR K H5 x (lays (A i) h n j (q i)) ∧ ∀ Q : VK, Q (.ref x) H5 →
            (if over (A i) h n j = true then tVar 4 [some (.ref r), some (.ref sd), some (.ref L), some (.int (i : Int)), some (.ref (fq i)), some (.ref r1), some (.int (j : Int))] H5 Q
              else tVar 5 [some (.ref r), some (.ref sd), some (.ref L), some (.int (i : Int)), some (.ref (fq i)), some (.ref r1), some (.int (j : Int))] H5 Q) := by
          cases eo : over (A i) h n j
          · rw [eo] at el
            exact ⟨r1, by rw [el]; exact hrq, fun Q k => iteF ⟨_, rfl, k⟩⟩
          · rw [eo] at el
            exact ⟨fq i, by rw [el]; exact hpq, fun Q k => iteT ⟨_, rfl, k⟩⟩
        refine pick _ ?_
        refine ⟨f4 j, x, _, _, rfl, hj4, hx, (load_bd (by omega) (fun k hk => C.bd k (by omega)) (fun k hk => hb k (by omega))).mono (by decide), (lays_bd (C.bd i hi) (hb i hi)).mono (by decide), fun H6 y s7 hy => ?_⟩
        have h61 := s7 _ _ h41
        refine ⟨_, rfl, _, rfl, L, _, _, j, rfl, rfl, h61, ?_, ?_⟩
        · rw [refs_len]
          unfold ixN
          rw [if_pos (by omega), if_pos (by omega), Int.toNat_natCast]
        refine ⟨same_mut (s6.trans s7) hLH, ⟨put f4 j y, ?_, fun t ht => ?_⟩, (hpq.same s7).keep h61, (hrq.same s7).keep h61, _, rfl⟩
        · rw [upd_same, refs_set]
        · show FR K (upd H6 L (.lst ((refs n f4).set j (.ref y)))) (put f4 j y t) (if t < j + 1 then load A h n t q (i + 1) else load A h n t q i)
          by_cases e : t = j
          · subst e
            rw [put_same, if_pos (Nat.lt_succ_self t), load_succ]
            exact hy.keep h61
          · rw [put_ne _ _ _ e]
            have h8 := ((h42 t ht).same s7).keep (ys := (refs n f4).set j (.ref y)) h61
            by_cases c : t < j
            · rw [if_pos (by omega)]
              rw [if_pos c] at h8
              exact h8
            · rw [if_neg (by omega)]
              rw [if_neg c] at h8
              exact h8
      · rintro σ H4 ⟨s6, ⟨f4, h41, h42⟩, hpq, hrq, v6, rfl⟩
        refine ⟨s6, ⟨f4, h41, fun t ht => ?_⟩, _, _, _, _, rfl⟩
        have h8 : FR K H4 (f4 t) (if t < n then load A h n t q (i + 1) else load A h n t q i) := h42 t ht
        rw [if_pos ht] at h8
        exact h8
    · rintro σ H1 ⟨s2, SL, v3, v4, v5, v6, rfl⟩
      exact ⟨_, rfl, kq H1 L s2 SL⟩
end
end K40
namespace K40
open PySem PyProof.Rows L2
theorem grow {K : PySem.W.Frag} {H H4 : Hp} {D y : Addr} {i : Nat} {q : Nat → Rat} (hD : H D = none) (s : Same H H4) (hS : SendAt K H4 i D q) (hi : i ≤ 100) (hy : FR K H4 y (q i)) :
    ∃ acc, H4 D = some (.lst acc) ∧ acc.length < sizeLine ∧ Same H (upd H4 D (.lst (acc ++ [V.ref y]))) ∧ SendAt K (upd H4 D (.lst (acc ++ [V.ref y]))) (i + 1) D q := by
  obtain ⟨g, h1, h2⟩ := hS
  refine ⟨refs i g, h1, ?_, same_mut s hD, put g i y, ?_, fun k hk => ?_⟩
  · rw [refs_len]
    exact Nat.lt_of_le_of_lt hi (by decide)
  · rw [upd_same, refs_put]
  · by_cases e : k = i
    · subst e
      rw [put_same]
      exact hy.keep h1
    · rw [put_ne _ _ _ e]
      exact (h2 k (by omega)).keep h1
theorem send0 {K : PySem.W.Frag} {H : Hp} {D : Addr} {q : Nat → Rat} : SendAt K (upd H D (.lst [])) 0 D q := ⟨fun _ => 0, upd_same, fun k hk => absurd hk (Nat.not_lt_zero k)⟩
theorem whole_bd {h n m : Nat} {A : Nat → Ask} {w : Nat → Bool} (C : Chain h n m A) {k : Nat} (hk : k < m) : Bd 100 (whole A w k) := by
  unfold whole
  split
  · exact (C.bd k hk).mono (by decide)
  · exact bd0.mono (by decide)
section
variable {P : Program} {w : World} {K : PySem.W.Frag} {mg : Str → Option Value} {base : Heap}
def spSent (K : PySem.W.Frag) : Sp := fun vs H Q _ => ∃ (r wl : Addr) (h n m : Nat) (A : Nat → Ask) (w : Nat → Bool), vs = [.ref r, .ref wl] ∧ Chain h n m A ∧ RingAt K H h n m r A ∧ WaysAt H m wl w ∧
  ∀ (H' : Hp) (p : Addr), Same H H' → SendAt K H' m p (whole A w) → Q (.ref p) H'
theorem scSent : FnScope ["ring", "ways", "ask", "way"] ["ring", "ways"] (defScope (top 31)) := ⟨rfl, rfl, rfl, by decide +kernel, rfl, by decide +kernel, by decide +kernel⟩
theorem d_sent (T : Top K mg) : Ok P w K mg base 1 "sent_by" ["ring", "ways"] (spSent K) := by
  refine mk_ok (k := 0) T.sent_by scSent (fun vs H Q E h => ?_) (fun _ _ _ _ _ _ us hl => match us, hl with | [_, _], _ => rfl) (fun f cdv A outer s H vs Q E hr h => ?_)
  · obtain ⟨_, _, _, _, _, _, _, rfl, _⟩ := h
    rfl
  · obtain ⟨r, wl, h, n, m, A, w, rfl, C, R, hw, kq⟩ := h
    obtain ⟨a0, g0, t0⟩ := T.nought
    obtain ⟨t1, g1⟩ := T.on
    refine ⟨_, pss_one (ps_ret (pe_lc (own := [("ask", 2), ("way", 3)]) (g := gTup K 2 _) rfl scSent.nd (pi_zip (by rfl) T.zip (pa_cons (pe_ix ix_tup (pv 0) pe_int (fun _ _ => rfl)) (pa_cons (pv 1) pa_nil)))
      (blkOk_by (N := ["ring", "ways", "ask", "way"]) (sc := defScope (top 31)) (by decide +kernel))
      (fun _ _ _ _ _ => pg_tup (by rfl) (pgs_cons (pg_name (i := 2) scSent.nd rfl (Or.inl rfl)) (pgs_cons (pg_name (i := 3) scSent.nd rfl (Or.inl rfl)) pgs_nil))) (fun _ _ _ _ _ => pts_nil)
      (fun _ _ _ _ _ => pe_ifExp (pt_cmpR op_eq (pv 3) (pe_glob (v := .str "on") rfl g1 ⟨t1, rfl⟩) (nomark _)) (pe_ix (r := rIxT K) ix_tup (pv 2) pe_int (fun _ _ => rfl)) (pe_glob (v := .ref a0) rfl g0 rfl)))), ?_⟩
    refine r_asks rfl R fun al g L => ?_
    refine ⟨_, rfl, al, wl, _, _, rfl, SqL.of L.lst, SqL.of hw, fun D hD => ?_⟩
    have hm5 := C.m5
    refine lc_it (walk_zip (K := K) (a := al) (b := wl) (xs := refs m g) (ys := wayV m w) (n := m) (by rw [refs_len, wayV_len, Nat.min_self])) (fun i H' => Same H H' ∧ SendAt K H' i D (whole A w)) ⟨same_new hD, send0⟩ ?_ ?_ ?_
    · rintro i H' _ ⟨s1, _⟩
      exact ⟨SqL.of (s1 _ _ L.lst), SqL.of (s1 _ _ hw)⟩
    · rintro i v H1 H2 hi ⟨s1, S1⟩ ⟨T1, x, y, rfl, hT1, rfl, hx, hy⟩
      have ex : V.ref (g i) = x := Option.some.inj ((refs_at hi).symm.trans hx)
      have ey : V.str (way (w i)) = y := Option.some.inj ((wayV_at hi).symm.trans hy)
      subst ex ey
      have s2 := same_new (o := .tup [.ref (g i), .str (way (w i))]) hT1
      obtain ⟨nm, sz, ha, hs⟩ := L.ask i hi
      refine ⟨T1, _, rfl, SqT.of upd_same, rfl, _, _, rfl, _, _, rfl, rfl, rfl, ?_⟩
      refine ⟨_, rfl, rfl, _, rfl, ?_⟩
      rw [way_on]
      have ew : whole A w i = if w i then (A i).s else 0 := rfl
      refine ite2 (fun e => ?_) (fun e => ?_)
      · rw [if_pos e] at ew
        refine ⟨_, rfl, g i, _, 3, .ref sz, rfl, rfl, SqT.of ((s1.trans s2) _ _ ha), rfl, ?_⟩
        exact grow hD (s1.trans s2) (S1.same s2) (by omega) (by rw [ew]; exact hs.same (s1.trans s2))
      · rw [if_neg e] at ew
        exact grow hD (s1.trans s2) (S1.same s2) (by omega) (by rw [ew]; exact fr0 (t0 _))
    · rintro H' ⟨s1, S1⟩
      exact kq H' D s1 S1
def spGains (K : PySem.W.Frag) : Sp := fun vs H Q _ => ∃ (r sd wl : Addr) (h n m : Nat) (A : Nat → Ask) (q : Nat → Rat) (w : Nat → Bool), vs = [.ref r, .ref sd, .ref wl] ∧ Cxt K H h n m r sd A q ∧ WaysAt H m wl w ∧
  ∀ (H' : Hp) (p : Addr), Same H H' → SendAt K H' n p (fun t => load A h n t (whole A w) m - load A h n t q m) → Q (.ref p) H'
theorem scGains : FnScope ["ring", "sending", "ways", "whole", "parted", "tie", "load"] ["ring", "sending", "ways"] (defScope (top 58)) := ⟨rfl, rfl, rfl, by decide +kernel, rfl, by decide +kernel, by decide +kernel⟩
theorem d_gains (T : Top K mg) : Ok P w K mg base 5 "gains_of" ["ring", "sending", "ways"] (spGains K) := by
  have D1 : Ok P w K mg base 4 "loads_of" ["ring", "sending"] (spLoads K) := d_loads T
  have D2 : Ok P w K mg base 1 "sent_by" ["ring", "ways"] (spSent K) := d_sent T
  have D3 : Ok P w K mg base 3 "minus" ["one", "other"] (spBin K fun q r => q - r) := d_minus T
  refine mk_ok (k := 4) T.gains_of scGains (fun vs H Q E h => ?_) (fun _ _ _ _ _ _ us hl => match us, hl with | [_, _, _], _ => rfl) (fun f cdv A outer s H vs Q E hr h => ?_)
  · obtain ⟨_, _, _, _, _, _, _, _, _, rfl, _⟩ := h
    rfl
  · obtain ⟨r, sd, wl, h, n, m, A, q, w, rfl, C, hw, kq⟩ := h
    refine ⟨_, pss_cons (ps_set (i := 3) scGains.nd rfl (.inl rfl) (pe_def D1 hr (by rfl) (pa_cons (pv 0) (pa_cons (pe_def D2 (hr.mono (by decide)) (by rfl) (pa_cons (pv 0) (pa_cons (pv 2) pa_nil))) pa_nil))))
      (pss_cons (ps_set (i := 4) scGains.nd rfl (.inr rfl) (pe_def D1 hr (by rfl) (pa_cons (pv 0) (pa_cons (pv 1) pa_nil))))
      (pss_one (ps_ret (pe_lc (own := [("tie", 5), ("load", 6)]) (g := gTup K 2 _) rfl scGains.nd (pi_enum (by rfl) T.enumerate (pa_cons (pv 3) pa_nil))
        (blkOk_by (N := ["ring", "sending", "ways", "whole", "parted", "tie", "load"]) (sc := defScope (top 58)) (by decide +kernel))
        (fun _ _ _ _ _ => pg_tup (by rfl) (pgs_cons (pg_name (i := 5) scGains.nd rfl (Or.inl rfl)) (pgs_cons (pg_name (i := 6) scGains.nd rfl (Or.inl rfl)) pgs_nil))) (fun _ _ _ _ _ => pts_nil)
        (fun _ _ _ _ _ => pe_def D3 (hr.mono (by decide)) (by rfl) (pa_cons (pv 6) (pa_cons (pe_ix (r := rIxL K) ix_list (pv 4) (pv 5) (fun _ _ => rfl)) pa_nil))))))), ?_⟩
    have hn11 : n ≤ 11 := by
      have := C.ch.h5
      have := C.ch.n2
      omega
    have hm5 := C.ch.m5
    refine ⟨_, rfl, _, rfl, _, rfl, r, wl, h, n, m, A, w, rfl, C.ch, C.ring, hw, fun H1 sp s1 hsp => ?_⟩
    refine ⟨r, sp, h, n, m, A, whole A w, rfl, C.ch, C.ring.same s1, hsp, fun k hk => whole_bd C.ch hk, fun H2 p1 s2 hp1 => ?_⟩
    have C2 := (C.same s1).same s2
    refine ⟨_, rfl, _, rfl, r, sd, h, n, m, A, q, rfl, C2.ch, C2.ring, C2.send, C2.st.bd, fun H3 p2 s3 hp2 => ?_⟩
    have s4 := (s1.trans s2).trans s3
    obtain ⟨f1, h11, h12⟩ := hp1.same s3
    obtain ⟨f2, h21, h22⟩ := hp2
    refine ⟨_, rfl, p1, _, rfl, SqL.of h11, fun D hD => ?_⟩
    refine lc_it (walk_enumR (m := n) (g := f1)) (fun i H' => Same H3 H' ∧ SendAt K H' i D (fun t => load A h n t (whole A w) m - load A h n t q m)) ⟨same_new hD, send0⟩ ?_ ?_ ?_
    · rintro i H' _ ⟨s5, _⟩
      exact SqL.of (s5 _ _ h11)
    · rintro i v H5 H6 hi ⟨s5, S5⟩ ⟨T1, rfl, hT1, rfl⟩
      have s6 := same_new (o := .tup [.int (i : Int), .ref (f1 i)]) hT1
      have s7 := s5.trans s6
      refine ⟨T1, _, rfl, SqT.of upd_same, rfl, _, _, rfl, _, _, rfl, rfl, rfl, ?_⟩
      refine ⟨_, rfl, _, rfl, _, rfl, p2, _, _, _, rfl, rfl, SqL.of (s7 _ _ h21), atI_nat (refs_at hi), ?_⟩
      refine ⟨f1 i, f2 i, _, _, rfl, (h12 i hi).same s7, (h22 i hi).same s7, (load_bd hm5 C.ch.bd (fun k hk => whole_bd C.ch hk)).mono (by decide), (load_bd hm5 C.ch.bd C.st.bd).mono (by decide), fun H8 y s8 hy => ?_⟩
      exact grow hD (s7.trans s8) ((S5.same s6).same s8) (by omega) hy
    · rintro H' ⟨s5, S5⟩
      exact kq H' D (s4.trans s5) S5
end
end K40
namespace K40
open PySem PyProof.Rows L2
section
variable {P : Program} {w : World} {K : PySem.W.Frag} {mg : Str → Option Value} {base : Heap}
/-! ### slides: none are needed -/
def spSlid (K : PySem.W.Frag) : Sp := fun vs H Q _ => ∃ (r sd th : Addr) (m : Nat) (q : Nat → Rat), vs = [.ref r, .ref sd, .ref th] ∧ m ≤ 5 ∧ SendAt K H m sd q ∧ H th = some (.lst []) ∧
  ∀ (H' : Hp) (p : Addr), Same H H' → SendAt K H' m p q → Q (.ref p) H'
theorem scSlid : FnScope ["ring", "sending", "thing", "found", "number", "one"] ["ring", "sending", "thing"] (defScope (top 42)) := ⟨rfl, rfl, rfl, by decide +kernel, rfl, by decide +kernel, by decide +kernel⟩
theorem send_copy {K : PySem.W.Frag} {H : Hp} {m : Nat} {sd l : Addr} {q : Nat → Rat} {f : Nat → Addr} (hl : H l = none) (h2 : ∀ k, k < m → FR K H (f k) (q k)) : SendAt K (upd H l (.lst (refs m f))) m l q :=
  ⟨f, upd_same, fun k hk => (h2 k hk).same (same_new hl)⟩
theorem d_slid (T : Top K mg) : Ok P w K mg base 1 "slid_by" ["ring", "sending", "thing"] (spSlid K) := by
  refine mk_ok (k := 0) T.slid_by scSlid (fun vs H Q E h => ?_) (fun _ _ _ _ _ _ us hl => match us, hl with | [_, _, _], _ => rfl) (fun f cdv A outer s H vs Q E hr h => ?_)
  · obtain ⟨_, _, _, _, _, rfl, _⟩ := h
    rfl
  · obtain ⟨r, sd, th, m, q, rfl, hm5, S, hth, kq⟩ := h
    refine ⟨_, pss_cons (ps_if (pt_not (pt_val (pe_callB RZ.call_isTy (by rfl) T.isinstance (by decide +kernel) (pa_cons (pv 2) (pa_cons (pe_bltn (v := .ty "list") (by rfl) T.list PyProof.Rows.boot_list rfl) pa_nil))))) (pss_one ps_never) pss_nil)
      (pss_cons (ps_set (i := 3) scSlid.nd rfl (.inl rfl) (pe_callTy call_list_of (by rfl) T.list PyProof.Rows.boot_list (pa_cons (pv 1) pa_nil)))
      (pss_cons (ps_for PassesOwn.never rfl (pi_enum (by rfl) T.enumerate (pa_cons (pv 2) pa_nil)) (pg_tup (by rfl) (pgs_cons (pg_name (i := 4) scSlid.nd rfl (.inl rfl)) (pgs_cons (pg_name (i := 5) scSlid.nd rfl (.inl rfl)) pgs_nil)))
        (pss_cons ps_never (pss_one ps_never)))
      (pss_one (ps_ret (pv 3))))), ?_⟩
    obtain ⟨fq, hq1, hq2⟩ := S
    refine ⟨_, rfl, .ref th, "list", rfl, .lst hth, true, rfl, iteF ?_⟩
    refine ⟨_, rfl, sd, _, rfl, .inl (SqL.of hq1), fun l hl => ?_⟩
    have s1 := same_new (o := .lst (refs m fq)) hl
    refine ⟨_, rfl, th, [], rfl, SqL.of (s1 _ _ hth), for_it (walk_enum (K := K) (a := th) (xs := [])) (fun i σ H' => H' = upd H l (.lst (refs m fq)) ∧ σ = [some (.ref r), some (.ref sd), some (.ref th), some (.ref l), none, none]) ⟨rfl, rfl⟩ ?_ ?_ ?_⟩
    · rintro i σ H' _ ⟨rfl, _⟩
      exact SqL.of (s1 _ _ hth)
    · rintro i v σ H1 H2 hi
      exact absurd hi (Nat.not_lt_zero i)
    · rintro σ H1 ⟨rfl, rfl⟩
      exact ⟨_, rfl, kq _ l s1 (send_copy (sd := sd) hl hq2)⟩
def spNext (K : PySem.W.Frag) : Sp := fun vs H Q _ => ∃ (r sd : Addr) (h n m : Nat) (A : Nat → Ask) (q : Nat → Rat), vs = [.ref r, .ref sd] ∧ Cxt K H h n m r sd A q ∧ ∀ H', Same H H' → Q .non H'
theorem scNext : FnScope ["ring", "sending", "parted", "k", "l", "way", "other", "first", "second"] ["ring", "sending"] (defScope (top 44)) := ⟨rfl, rfl, rfl, by decide +kernel, rfl, by decide +kernel, by decide +kernel⟩
theorem d_next (T : Top K mg) : Ok P w K mg base 4 "next_slide" ["ring", "sending"] (spNext K) := by
  have D1 : Ok P w K mg base 1 "do_cross" ["ring", "k", "l"] (spCross K) := d_cross T
  have D2 : Ok P w K mg base 3 "parted_in" ["ring", "sending"] (spParted K) := d_parted T
  refine mk_ok (k := 3) T.next_slide scNext (fun vs H Q E h => ?_) (fun _ _ _ _ _ _ us hl => match us, hl with | [_, _], _ => rfl) (fun f cdv A outer s H vs Q E hr h => ?_)
  · obtain ⟨_, _, _, _, _, _, _, rfl, _⟩ := h
    rfl
  · obtain ⟨r, sd, h, n, m, A, q, rfl, C, kq⟩ := h
    refine ⟨_, pss_cons (ps_set (i := 2) scNext.nd rfl (.inl rfl) (pe_def D2 hr (by rfl) (pa_cons (pv 0) (pa_cons (pv 1) pa_nil))))
      (pss_cons (ps_for PassesOwn.never rfl (pi_list (pv 2)) (pg_name (i := 3) scNext.nd rfl (.inl rfl))
        (pss_one (ps_for PassesOwn.never rfl (pi_list (pv 2)) (pg_name (i := 4) scNext.nd rfl (.inl rfl))
          (pss_one (ps_if (PW.pt (pw_and (pt_cmpR op_lt (pv 3) (pv 4) (nomark _)) (pw_and1 (pt_not (pt_val (pe_def D1 (hr.mono (by decide)) (by rfl) (pa_cons (pv 0) (pa_cons (pv 3) (pa_cons (pv 4) pa_nil)))))))))
            (pss_cons ps_never (pss_cons ps_never (pss_cons ps_never (pss_one ps_never)))) pss_nil)))))
      (pss_one (ps_ret pe_non))), ?_⟩
    refine ⟨_, rfl, _, rfl, r, sd, h, n, m, A, q, rfl, C, fun H1 p s0 _ hp => ?_⟩
    have R := C.ring.same s0
    refine ⟨_, rfl, p, rfl, ⟨_, SqL.of hp⟩, for_it (walk_list (K := K) (a := p) (xs := nums (List.range m))) (fun i σ H' => Same H1 H' ∧ ∃ v2 v3 : Option V, σ = [some (.ref r), some (.ref sd), some (.ref p), v2, v3, none, none, none, none]) ⟨Same.refl H1, none, none, rfl⟩ ?_ ?_ ?_⟩
    · rintro i σ H' _ ⟨s1, _⟩
      exact SqL.of (s1 _ _ hp)
    · rintro i v σ H' H'' hi ⟨s1, v2, v3, rfl⟩ ⟨rfl, hv⟩
      obtain ⟨hi', rfl⟩ := range_of hv
      refine ⟨_, rfl, p, rfl, ⟨_, SqL.of (s1 _ _ hp)⟩, for_it (walk_list (K := K) (a := p) (xs := nums (List.range m))) (fun j σ H2 => Same H1 H2 ∧ ∃ v3 : Option V, σ = [some (.ref r), some (.ref sd), some (.ref p), some (.int (i : Int)), v3, none, none, none, none]) ⟨s1, v3, rfl⟩ ?_ ?_ ?_⟩
      · rintro j σ H2 _ ⟨s2, _⟩
        exact SqL.of (s2 _ _ hp)
      · rintro j u σ H2 H3 hj ⟨s2, v3, rfl⟩ ⟨rfl, hu⟩
        obtain ⟨hj', rfl⟩ := range_of hu
        refine ⟨_, rfl, _, rfl, (i : Int), (j : Int), rfl, rfl, _, rfl, ?_⟩
        by_cases c : (i : Int) < (j : Int)
        · rw [decide_eq_true c]
          refine iteT ⟨_, rfl, _, rfl, _, rfl, r, i, j, h, n, m, A, rfl, C.ch, R.same s2, hi', hj', by omega, fun H4 s4 => ?_⟩
          refine ⟨true, rfl, iteF ?_⟩
          exact ⟨s2.trans s4, _, rfl⟩
        · rw [decide_eq_false c]
          refine iteF (iteF ?_)
          exact ⟨s2, _, rfl⟩
      · rintro σ H2 ⟨s2, v3, rfl⟩
        exact ⟨s2, _, _, rfl⟩
    · rintro σ H' ⟨s1, v2, v3, rfl⟩
      exact kq H' (s0.trans s1)
def spSlides (K : PySem.W.Frag) : Sp := fun vs H Q _ => ∃ (r sd : Addr) (h n m : Nat) (A : Nat → Ask) (q : Nat → Rat), vs = [.ref r, .ref sd] ∧ Cxt K H h n m r sd A q ∧ ∀ (H' : Hp) (p : Addr), Same H H' → H' p = some (.lst []) → Q (.ref p) H'
theorem scSlides : FnScope ["ring", "sending", "found", "here", "slide"] ["ring", "sending"] (defScope (top 45)) := ⟨rfl, rfl, rfl, by decide +kernel, rfl, by decide +kernel, by decide +kernel⟩
theorem d_slides (T : Top K mg) : Ok P w K mg base 5 "slides_for" ["ring", "sending"] (spSlides K) := by
  have D1 : Ok P w K mg base 4 "next_slide" ["ring", "sending"] (spNext K) := d_next T
  refine mk_ok (k := 4) T.slides_for scSlides (fun vs H Q E h => ?_) (fun _ _ _ _ _ _ us hl => match us, hl with | [_, _], _ => rfl) (fun f cdv A outer s H vs Q E hr h => ?_)
  · obtain ⟨_, _, _, _, _, _, _, rfl, _⟩ := h
    rfl
  · obtain ⟨r, sd, h, n, m, A, q, rfl, C, kq⟩ := h
    refine ⟨_, pss_cons (ps_set (i := 2) scSlides.nd rfl (.inl rfl) (pe_lst pa_nil))
      (pss_cons (ps_set (i := 3) scSlides.nd rfl (.inl rfl) (pe_callTy call_list_of (by rfl) T.list PyProof.Rows.boot_list (pa_cons (pv 1) pa_nil)))
      (pss_cons (ps_set (i := 4) scSlides.nd rfl (.inl rfl) (pe_def D1 hr (by rfl) (pa_cons (pv 0) (pa_cons (pv 3) pa_nil))))
      (pss_cons (ps_while PassesOwn.never (pt_cmpR op_notN (pv 4) pe_non (nomark _)) (pss_cons ps_never (pss_cons ps_never (pss_one ps_never))))
      (pss_one (ps_ret (pv 2)))))), ?_⟩
    refine ⟨(by show 0 ≤ sizeLine; decide), fun e he => ?_⟩
    have s1 := same_new (o := .lst []) he
    obtain ⟨fq, hq1, hq2⟩ := C.send.same s1
    refine ⟨_, rfl, sd, _, rfl, .inl (SqL.of hq1), fun l hl => ?_⟩
    have s2 := same_new (o := .lst (refs m fq)) hl
    have C2 := (C.same s1).same s2
    refine ⟨_, rfl, _, rfl, r, l, h, n, m, A, q, rfl, ⟨C2.ch, C2.st, C2.ring, send_copy (sd := sd) hl hq2⟩, fun H3 s3 => ?_⟩
    refine ⟨fun m σ H' => σ = [some (.ref r), some (.ref sd), some (.ref e), some (.ref l), some .non] ∧ H' = H3, ⟨0, rfl, rfl⟩, ?_⟩
    rintro _ σ H' ⟨rfl, rfl⟩
    refine ⟨_, rfl, rfl, _, rfl, iteF ?_⟩
    exact ⟨_, rfl, kq _ e ((s1.trans s2).trans s3) (s3 _ _ (s2 _ _ upd_same))⟩
def spBehind (K : PySem.W.Frag) : Sp := spSlid K
theorem scBehind : FnScope ["ring", "sending", "thing", "found"] ["ring", "sending", "thing"] (defScope (top 53)) := ⟨rfl, rfl, rfl, by decide +kernel, rfl, by decide +kernel, by decide +kernel⟩
theorem d_behind (T : Top K mg) : Ok P w K mg base 2 "behind_or_none" ["ring", "sending", "thing"] (spSlid K) := by
  have D1 : Ok P w K mg base 1 "slid_by" ["ring", "sending", "thing"] (spSlid K) := d_slid T
  refine mk_ok (k := 1) T.behind scBehind (fun vs H Q E h => ?_) (fun _ _ _ _ _ _ us hl => match us, hl with | [_, _, _], _ => rfl) (fun f cdv A outer s H vs Q E hr h => ?_)
  · obtain ⟨_, _, _, _, _, rfl, _⟩ := h
    rfl
  · obtain ⟨r, sd, th, m, q, rfl, hm5, S, hth, kq⟩ := h
    refine ⟨_, pss_cons (ps_set (i := 3) scBehind.nd rfl (.inl rfl) pe_non)
      (pss_cons (ps_try_thru0 (pss_one (ps_set (i := 3) scBehind.nd rfl (.inl rfl) (pe_def D1 hr (by rfl) (pa_cons (pv 0) (pa_cons (pv 1) (pa_cons (pv 2) pa_nil)))))))
      (pss_one (ps_ret (pv 3)))), ?_⟩
    refine ⟨_, rfl, _, rfl, _, rfl, r, sd, th, m, q, rfl, hm5, S, hth, fun H' p s1 hp => ?_⟩
    exact ⟨_, rfl, kq H' p s1 hp⟩
/-! ### are_ways -/
def spWays (K : PySem.W.Frag) : Sp := fun vs H Q _ => ∃ (r wl : Addr) (h n m : Nat) (A : Nat → Ask) (w : Nat → Bool), vs = [.ref r, .ref wl] ∧ m ≤ 5 ∧ RingAt K H h n m r A ∧ WaysAt H m wl w ∧ ∀ H', Same H H' → Q (.bl true) H'
theorem scWays : FnScope ["ring", "thing", "way"] ["ring", "thing"] (defScope (top 30)) := ⟨rfl, rfl, rfl, by decide +kernel, rfl, by decide +kernel, by decide +kernel⟩
theorem way_in (b : Bool) : inV (.str (way b)) [.str "on", .str "back"] = true := by
  cases b <;> decide +kernel
theorem d_ways (T : Top K mg) : Ok P w K mg base 1 "are_ways" ["ring", "thing"] (spWays K) := by
  refine mk_ok (k := 0) T.are_ways scWays (fun vs H Q E h => ?_) (fun _ _ _ _ _ _ us hl => match us, hl with | [_, _], _ => rfl) (fun f cdv A outer s H vs Q E hr h => ?_)
  · obtain ⟨_, _, _, _, _, _, _, rfl, _⟩ := h
    rfl
  · obtain ⟨r, wl, h, n, m, A, w, rfl, hm5, R, hw, kq⟩ := h
    obtain ⟨t1, g1⟩ := T.on
    obtain ⟨t2, g2⟩ := T.back
    refine ⟨_, pss_cons (ps_if (PW.pt (pw_or (pt_not (pt_val (pe_callB RZ.call_isTy (by rfl) T.isinstance (by decide +kernel) (pa_cons (pv 1) (pa_cons (pe_bltn (v := .ty "list") (by rfl) T.list PyProof.Rows.boot_list rfl) pa_nil)))))
        (pw_or1 (pt_cmpR op_ne (pe_callB call_len_seq (by rfl) T.len PySem.boot_len (pa_cons (pv 1) pa_nil)) (pe_callB call_len_seq (by rfl) T.len PySem.boot_len (pa_cons (pe_ix ix_tup (pv 0) pe_int (fun _ _ => rfl)) pa_nil)) (nomark _))))) (pss_one (ps_ret pe_bl)) pss_nil)
      (pss_one (ps_ret (pe_callB (cr_all rfl) (by rfl) T.all (by decide +kernel) (pa_cons
        (pe_lc (own := [("way", 2)]) (g := gName 2) rfl scWays.nd (pi_list (pv 1)) (blkOk_by (N := ["ring", "thing", "way"]) (sc := defScope (top 30)) (by decide +kernel))
          (fun _ _ _ _ _ => pg_name (i := 2) scWays.nd rfl (Or.inl rfl)) (fun _ _ _ _ _ => pts_nil)
          (fun _ _ _ _ _ => pe_and (pe_callB RZ.call_isTy (by rfl) T.isinstance (by decide +kernel) (pa_cons (pv 2) (pa_cons (pe_bltn (v := .ty "str") (by rfl) T.str (by decide +kernel) rfl) pa_nil)))
            (pe_one (pe_cmpR (r := rIn K false) op_in_seq (pv 2) (pe_tup (pa_cons (pe_glob (v := .str "on") rfl g1 ⟨t1, rfl⟩) (pa_cons (pe_glob (v := .str "back") rfl g2 ⟨t2, rfl⟩) pa_nil))) (by rfl))))) pa_nil)))), ?_⟩
    refine ⟨_, rfl, .ref wl, "list", rfl, .lst hw, true, rfl, iteF ?_⟩
    refine ⟨_, rfl, wl, _, rfl, .inl (SqL.of hw), ?_⟩
    refine r_asks rfl R fun al g L => ?_
    refine ⟨al, _, rfl, .inl (SqL.of L.lst), rfl, _, rfl, ?_⟩
    rw [wayV_len, refs_len, decide_eq_true (rfl : V.int (m : Int) = V.int (m : Int))]
    refine iteF ?_
    refine ⟨_, rfl, wl, rfl, ⟨_, SqL.of hw⟩, fun D hD => ?_⟩
    refine lc_it (walk_list (K := K) (a := wl) (xs := wayV m w)) (fun i H' => Same H H' ∧ H' D = some (.lst ((List.replicate i true).map V.bl))) ⟨same_new hD, upd_same⟩ ?_ ?_ ?_
    · rintro i H' _ ⟨s1, _⟩
      exact SqL.of (s1 _ _ hw)
    · rintro i v H1 H2 hi ⟨s1, h1⟩ ⟨rfl, hv⟩
      rw [wayV_len] at hi
      have ev : V.str (way (w i)) = v := Option.some.inj ((wayV_at hi).symm.trans hv)
      subst ev
      refine ⟨rfl, ?_⟩
      refine ⟨_, rfl, .str (way (w i)), "str", rfl, .str _, true, rfl, iteT ?_⟩
      refine ⟨_, rfl, (by show 2 ≤ sizeLine; decide), fun t ht => ?_⟩
      have s2 := same_new (o := .tup [.str "on", .str "back"]) ht
      refine ⟨t, _, rfl, .inr tup_new, rfl, rfl, ?_⟩
      rw [show (if false = true then !inV (V.str (way (w i))) [V.str "on", V.str "back"] else inV (V.str (way (w i))) [V.str "on", V.str "back"]) = true from way_in (w i)]
      refine ⟨_, s2 _ _ h1, ?_, same_mut (s1.trans s2) hD, ?_⟩
      · rw [List.length_map, List.length_replicate]
        exact small5 (by omega)
      · rw [upd_same, List.replicate_succ', List.map_append]
        rfl
    · rintro H1 ⟨s1, h1⟩
      rw [wayV_len] at h1
      refine ⟨D, List.replicate m true, rfl, SqL.of h1, ?_⟩
      rw [show (List.replicate m true).all id = true from List.all_eq_true.mpr fun x hx => List.eq_of_mem_replicate hx]
      exact kq H1 s1
end
end K40
namespace K40
open PySem PyProof.Rows L2
theorem in_nums {m i : Nat} (h : i < m) : inV (.int (i : Int)) (nums (List.range m)) = true := by
  unfold inV
  refine List.any_eq_true.mpr ⟨.int (i : Int), List.mem_map.mpr ⟨i, List.mem_range.mpr h, rfl⟩, ?_⟩
  simp [eqV]
theorem flat_nums (l : List Nat) : (nums l).all flatV = true := by
  unfold nums
  refine List.all_eq_true.mpr fun x hx => ?_
  obtain ⟨k, _, rfl⟩ := List.mem_map.mp hx
  rfl
theorem not_in_nums {m i : Nat} (h : i < m) : (if true = true then !inV (V.int (i : Int)) (nums (List.range m)) else inV (V.int (i : Int)) (nums (List.range m))) = false := by
  rw [if_pos rfl, in_nums h]
  rfl
theorem walk_enumW {K : PySem.W.Frag} {a : Addr} {m : Nat} {w : Nat → Bool} : Walk (Ite K a) m (fun H => SqL K H a (wayV m w)) (fun i H v H' => ∃ T, v = .ref T ∧ H T = none ∧ H' = upd H T (.tup [.int (i : Int), .str (way (w i))])) := by
  have hw := (walk_enum (K := K) (a := a) (xs := wayV m w)).mono (G' := fun H => SqL K H a (wayV m w)) (Y' := fun i H v H' => ∃ T, v = .ref T ∧ H T = none ∧ H' = upd H T (.tup [.int (i : Int), .str (way (w i))])) (fun _ h => h) (fun i H v H' hi _ y => by
    obtain ⟨T, x, z, h1, h2, h3, h4, h5⟩ := y
    have h4' : V.int (i : Int) = x := Option.some.inj h4
    rw [wayV_len] at hi
    have h5' : V.str (way (w i)) = z := Option.some.inj ((wayV_at hi).symm.trans h5)
    subst h4' h5'
    exact ⟨T, h1, h2, h3⟩)
  rw [wayV_len] at hw
  exact hw
theorem psum_bd {h n m : Nat} {A : Nat → Ask} {q : Nat → Rat} {w : Nat → Bool} (C : Chain h n m A) (S : Sent m A q) (i : Nat) : Bd 1000 (psum m A q w i) := by
  unfold psum
  refine (sumL_bd (B := 160) fun k hk => row_bd (C.bd k (ord_mem (List.mem_of_mem_take hk))) (S.bd k (ord_mem (List.mem_of_mem_take hk)))).mono ?_
  have h1 : ((ord m A).take i).length ≤ 5 := by
    rw [List.length_take, ord_len]
    have := C.m5
    omega
  omega
theorem halfm_bd {h n m : Nat} {A : Nat → Ask} (C : Chain h n m A) : Bd 3900 (most A m * hf) := ((most_bd C.bd).mul bdH).mono (by decide)
theorem wayV_set (m k : Nat) (w : Nat → Bool) (b : Bool) : (wayV m w).set k (V.str (way b)) = wayV m (updW w k b) := by
  refine List.ext_getElem? fun i => ?_
  rw [List.getElem?_set]
  by_cases hi : i < m
  · rw [wayV_at hi, wayV_at hi, wayV_len]
    by_cases e : k = i
    · subst e
      rw [if_pos rfl, if_pos hi, updW_same]
    · rw [if_neg e, updW_ne _ _ _ (fun z => e z.symm)]
  · rw [List.getElem?_eq_none (by rw [wayV_len]; omega), List.getElem?_eq_none (by rw [wayV_len]; omega)]
    split
    · rw [if_neg (by rw [wayV_len]; omega)]
    · rfl
theorem nums_way {m : Nat} {A : Nat → Ask} {w : Nat → Bool} (h : 1 ≤ m) : HO.lst (nums (ord m A)) ≠ HO.lst (wayV m w) := by
  intro e
  have e1 := HO.lst.inj e
  have hl : 0 < (ord m A).length := by
    rw [ord_len]
    exact h
  have e2 := nums_at (List.getElem?_eq_getElem hl)
  rw [e1, wayV_at (show 0 < m from h)] at e2
  cases e2
theorem ixN_nat {n k : Nat} (h : k < n) : ixN n (k : Int) = some k := by
  unfold ixN
  rw [if_pos (by omega), if_pos (by omega), Int.toNat_natCast]
section
variable {P : Program} {w : World} {K : PySem.W.Frag} {mg : Str → Option Value} {base : Heap}
def spRounded (K : PySem.W.Frag) : Sp := fun vs H Q _ => ∃ (r sd wl : Addr) (h n m : Nat) (A : Nat → Ask) (q : Nat → Rat) (w : Nat → Bool), vs = [.ref r, .ref sd, .ref wl] ∧ Cxt K H h n m r sd A q ∧ WaysAt H m wl w ∧
  ∀ (H' : Hp) (b : Bool), Same H H' → (b = true ↔ Due m A q w) → Q (.bl b) H'
theorem scRounded : FnScope ["ring", "behind", "ways", "parted", "k", "way", "most", "total"] ["ring", "behind", "ways"] (defScope (top 52)) := ⟨rfl, rfl, rfl, by decide +kernel, rfl, by decide +kernel, by decide +kernel⟩
theorem d_rounded (T : Top K mg) : Ok P w K mg base 6 "are_rounded" ["ring", "behind", "ways"] (spRounded K) := by
  have D1 : Ok P w K mg base 3 "parted_in" ["ring", "sending"] (spParted K) := d_parted T
  have D2 : Ok P w K mg base 1 "goes_whole" ["ring", "sending", "k", "way"] spNo := d_goes T
  have D3 : Ok P w K mg base 4 "half_of_greatest" ["ring", "some"] (spHalf K) := d_half T
  have D4 : Ok P w K mg base 1 "in_order" ["ring", "some"] (spOrder K) := d_order T
  have D5 : Ok P w K mg base 3 "plus" ["one", "other"] (spBin K fun q r => q + r) := d_plus T
  have D6 : Ok P w K mg base 5 "gain_by" ["ring", "sending", "k", "way"] (spGain K) := d_gain T
  have D7 : Ok P w K mg base 1 "under" ["one", "other"] (spUnd K) := d_under T
  have D8 : Ok P w K mg base 3 "minus" ["one", "other"] (spBin K fun q r => q - r) := d_minus T
  refine mk_ok (k := 5) T.are_rounded scRounded (fun vs H Q E h => ?_) (fun _ _ _ _ _ _ us hl => match us, hl with | [_, _, _], _ => rfl) (fun f cdv A outer s H vs Q E hr h => ?_)
  · obtain ⟨_, _, _, _, _, _, _, _, _, rfl, _⟩ := h
    rfl
  · obtain ⟨r, sd, wl, h, n, m, A, q, w, rfl, C, hw, kq⟩ := h
    obtain ⟨a0, g0, t0⟩ := T.nought
    have hm5 := C.ch.m5
    refine ⟨_, pss_cons (ps_set (i := 3) scRounded.nd rfl (.inl rfl) (pe_def D1 (hr.mono (by decide)) (by rfl) (pa_cons (pv 0) (pa_cons (pv 1) pa_nil))))
      (pss_cons (ps_for PassesOwn.never rfl (pi_enum (by rfl) T.enumerate (pa_cons (pv 2) pa_nil)) (pg_tup (by rfl) (pgs_cons (pg_name (i := 4) scRounded.nd rfl (.inl rfl)) (pgs_cons (pg_name (i := 5) scRounded.nd rfl (.inl rfl)) pgs_nil)))
        (pss_one (ps_if (PW.pt (pw_and (pt_cmpR op_notIn_seq (pv 4) (pv 3) (by rfl)) (pw_and1 (pt_not (pt_val (pe_def D2 (hr.mono (by decide)) (by rfl) (pa_cons (pv 0) (pa_cons (pv 1) (pa_cons (pv 4) (pa_cons (pv 5) pa_nil))))))))))
          (pss_one (ps_ret pe_bl)) pss_nil)))
      (pss_cons (ps_set (i := 6) scRounded.nd rfl (.inl rfl) (pe_def D3 (hr.mono (by decide)) (by rfl) (pa_cons (pv 0) (pa_cons (pv 3) pa_nil))))
      (pss_cons (ps_set (i := 7) scRounded.nd rfl (.inl rfl) (pe_glob (v := .ref a0) rfl g0 rfl))
      (pss_cons (ps_for PassesOwn.never rfl (pi_list (pe_def D4 (hr.mono (by decide)) (by rfl) (pa_cons (pv 0) (pa_cons (pv 3) pa_nil)))) (pg_name (i := 4) scRounded.nd rfl (.inl rfl))
        (pss_cons (ps_set (i := 7) scRounded.nd rfl (.inl rfl) (pe_def D5 (hr.mono (by decide)) (by rfl) (pa_cons (pv 7) (pa_cons (pe_def D6 hr (by rfl) (pa_cons (pv 0) (pa_cons (pv 1) (pa_cons (pv 4) (pa_cons (pe_ix ix_list (pv 2) (pv 4) (fun _ _ => rfl)) pa_nil))))) pa_nil))))
        (pss_one (ps_if (PW.pt (pw_or (pt_val (pe_def D7 (hr.mono (by decide)) (by rfl) (pa_cons (pv 6) (pa_cons (pv 7) pa_nil))))
          (pw_or1 (pt_val (pe_def D7 (hr.mono (by decide)) (by rfl) (pa_cons (pv 7) (pa_cons (pe_def D8 (hr.mono (by decide)) (by rfl) (pa_cons (pe_glob (v := .ref a0) rfl g0 rfl) (pa_cons (pv 6) pa_nil))) pa_nil)))))))
          (pss_one (ps_ret pe_bl)) pss_nil))))
      (pss_one (ps_ret pe_bl)))))), ?_⟩
    refine ⟨_, rfl, _, rfl, r, sd, h, n, m, A, q, rfl, C, fun H1 p s1 _ hp => ?_⟩
    -- for k, way in enumerate(ways): none goes whole
    refine ⟨_, rfl, wl, _, rfl, SqL.of (s1 _ _ hw), for_it (walk_enumW (m := m) (w := w)) (fun i σ H' => Same H1 H' ∧ ∃ v4 v5 : Option V, σ = [some (.ref r), some (.ref sd), some (.ref wl), some (.ref p), v4, v5, none, none]) ⟨Same.refl H1, none, none, rfl⟩ ?_ ?_ ?_⟩
    · rintro i σ H' _ ⟨s2, _⟩
      exact SqL.of (s2 _ _ (s1 _ _ hw))
    · rintro i v σ H2 H3 hi ⟨s2, v4, v5, rfl⟩ ⟨T1, rfl, hT1, rfl⟩
      have s3 := same_new (o := .tup [.int (i : Int), .str (way (w i))]) hT1
      refine ⟨T1, _, rfl, SqT.of upd_same, rfl, _, _, rfl, _, _, rfl, rfl, ?_⟩
      refine ⟨_, rfl, _, rfl, p, _, rfl, .inl (SqL.of (s3 _ _ (s2 _ _ hp))), rfl, flat_nums _, _, rfl, ?_⟩
      rw [not_in_nums hi]
      refine iteF (iteF ?_)
      exact ⟨s2.trans s3, _, _, rfl⟩
    rintro σ H2 ⟨s2, v4, v5, rfl⟩
    have C2 := (C.same s1).same s2
    have hp2 := s2 _ _ hp
    refine ⟨_, rfl, _, rfl, r, p, h, n, m, A, rfl, C2.ch, C2.ring, hp2, fun H3 ms s3 hms => ?_⟩
    have C3 := C2.same s3
    refine ⟨_, rfl, _, rfl, r, p, h, n, m, A, rfl, C3.ch, C3.ring, s3 _ _ hp2, fun H4 o s4 ho => ?_⟩
    have C4 := C3.same s4
    have s14 := s1.trans (s2.trans (s3.trans s4))
    refine ⟨o, rfl, ⟨_, SqL.of ho⟩, for_it (walk_list (K := K) (a := o) (xs := nums (ord m A))) (fun i σ H' => Same H4 H' ∧ (∀ j, j < i → okAt m A q w (j + 1)) ∧ ∃ (x : Addr) (v4 v5 : Option V), σ = [some (.ref r), some (.ref sd), some (.ref wl), some (.ref p), v4, v5, some (.ref ms), some (.ref x)] ∧ FR K H' x (psum m A q w i))
      ⟨Same.refl H4, fun j hj => absurd hj (Nat.not_lt_zero j), a0, _, _, rfl, fr0 (t0 _)⟩ ?_ ?_ ?_⟩
    · rintro i σ H' _ ⟨s5, _⟩
      exact SqL.of (s5 _ _ ho)
    · rintro i v σ H5 H6 hi ⟨s5, hok, x, v4, v5, rfl, hx⟩ ⟨rfl, hv⟩
      obtain ⟨k, hk, rfl⟩ := nums_of hv
      have hkm := ord_mem (List.mem_of_getElem? hk)
      have him : i < m := by
        rw [nums_len, ord_len] at hi
        exact hi
      have C5 := C4.same s5
      have hw5 := s5 _ _ (s14 _ _ hw)
      refine ⟨_, rfl, _, rfl, _, rfl, _, rfl, _, rfl, _, rfl, wl, _, _, _, rfl, rfl, SqL.of hw5, atI_nat (wayV_at hkm), ?_⟩
      refine ⟨r, sd, k, h, n, m, A, q, w k, rfl, C5, hkm, fun H7 y s7 hy => ?_⟩
      refine ⟨x, y, _, _, rfl, hx.same s7, hy, (psum_bd C.ch C.st i).mono (by decide), (row_bd (C.ch.bd k hkm) (C.st.bd k hkm)).mono (by decide), fun H8 z s8 hz => ?_⟩
      have es : psum m A q w (i + 1) = psum m A q w i + row (A k) (q k) (w k) := psum_succ hk
      have hz : FR K H8 z (psum m A q w (i + 1)) := by
        rw [es]
        exact hz
      have hm8 := ((hms.same s4).same s5).same (s7.trans s8)
      have hb1 := halfm_bd C.ch
      have hb2 : Bd 3900 (psum m A q w (i + 1)) := (psum_bd C.ch C.st (i + 1)).mono (by decide)
      refine ⟨_, rfl, _, rfl, ms, z, _, _, rfl, hm8, hz, hb1, hb2, _, rfl, ?_⟩
      have bad : ¬ okAt m A q w (i + 1) → ∀ H', Same H8 H' → Q (.bl false) H' := fun no H' sx => kq H' false (s14.trans (s5.trans (s7.trans (s8.trans sx)))) ⟨fun z => (Bool.noConfusion z), fun d => absurd (d i him) no⟩
      by_cases c1 : most A m * hf < psum m A q w (i + 1)
      · rw [decide_eq_true c1]
        refine iteT (iteT ?_)
        exact bad (fun ok => Rat.not_lt.mpr ok.1 c1) _ (Same.refl _)
      · rw [decide_eq_false c1]
        refine iteF ⟨_, rfl, _, rfl, a0, ms, 0, _, rfl, fr0 (t0 _), hm8, bd0.mono (by decide), hb1, fun H9 y2 s9 hy2 => ?_⟩
        refine ⟨z, y2, _, _, rfl, hz.same s9, hy2, hb2, ?_, _, rfl, ?_⟩
        · exact (bd0.sub ((most_bd C.ch.bd).mul bdH)).mono (by decide)
        by_cases c2 : psum m A q w (i + 1) < 0 - most A m * hf
        · rw [decide_eq_true c2]
          refine iteT ?_
          exact bad (fun ok => Rat.not_lt.mpr ok.2 c2) _ s9
        · rw [decide_eq_false c2]
          refine iteF ?_
          refine ⟨s5.trans (s7.trans (s8.trans s9)), fun j hj => ?_, z, _, _, rfl, hz.same s9⟩
          by_cases e : j = i
          · subst e
            exact ⟨Rat.not_lt.mp c1, Rat.not_lt.mp c2⟩
          · exact hok j (by omega)
    · rintro σ H5 ⟨s5, hok, x, v4, v5, rfl, hx⟩
      rw [nums_len, ord_len] at hok
      exact kq H5 true (s14.trans s5) ⟨fun _ => hok, fun _ => rfl⟩
def spWhole (K : PySem.W.Frag) : Sp := fun vs H Q _ => ∃ (r sd : Addr) (h n m : Nat) (A : Nat → Ask) (q : Nat → Rat), vs = [.ref r, .ref sd] ∧ Cxt K H h n m r sd A q ∧
  ∀ (H' : Hp) (p : Addr) (w : Nat → Bool), Same H H' → WaysAt H' m p w → Due m A q w → Q (.ref p) H'
theorem scWhole : FnScope ["ring", "behind", "ways", "parted", "k", "most", "total", "ask"] ["ring", "behind"] (defScope (top 55)) := ⟨rfl, rfl, rfl, by decide +kernel, rfl, by decide +kernel, by decide +kernel⟩
theorem d_whole (T : Top K mg) : Ok P w K mg base 6 "whole_ways" ["ring", "behind"] (spWhole K) := by
  have D1 : Ok P w K mg base 3 "parted_in" ["ring", "sending"] (spParted K) := d_parted T
  have D2 : Ok P w K mg base 1 "goes_whole" ["ring", "sending", "k", "way"] spNo := d_goes T
  have D3 : Ok P w K mg base 4 "half_of_greatest" ["ring", "some"] (spHalf K) := d_half T
  have D4 : Ok P w K mg base 1 "in_order" ["ring", "some"] (spOrder K) := d_order T
  have D5 : Ok P w K mg base 3 "plus" ["one", "other"] (spBin K fun q r => q + r) := d_plus T
  have D6 : Ok P w K mg base 5 "gain_by" ["ring", "sending", "k", "way"] (spGain K) := d_gain T
  have D7 : Ok P w K mg base 1 "under" ["one", "other"] (spUnd K) := d_under T
  have D8 : Ok P w K mg base 1 "rising_way" ["ring", "k"] (spRise K) := d_rise T
  have D9 : Ok P w K mg base 1 "other_way" ["way"] spOther := d_other T
  refine mk_ok (k := 5) T.whole_ways scWhole (fun vs H Q E h => ?_) (fun _ _ _ _ _ _ us hl => match us, hl with | [_, _], _ => rfl) (fun f cdv A outer s H vs Q E hr h => ?_)
  · obtain ⟨_, _, _, _, _, _, _, rfl, _⟩ := h
    rfl
  · obtain ⟨r, sd, h, n, m, A, q, rfl, C, kq⟩ := h
    obtain ⟨a0, g0, t0⟩ := T.nought
    obtain ⟨t1, g1⟩ := T.on
    have hm5 := C.ch.m5
    have h0 : 0 < h := by
      have := C.ch.h2
      omega
    refine ⟨_, pss_cons (ps_setLc (i := 2) (own := [("ask", 7)]) (g := gName 7) rfl scWhole.nd rfl rfl (sw_true rfl rfl rfl (by decide +kernel)) (pi_list (pe_ix ix_tup (pv 0) pe_int (fun _ _ => rfl)))
        (blkOk_by (N := ["ring", "behind", "ways", "parted", "k", "most", "total", "ask"]) (sc := defScope (top 55)) (by decide +kernel)) (fun _ _ _ _ _ => pg_name (i := 7) scWhole.nd rfl (Or.inl rfl)) (fun _ _ _ _ _ => pts_nil)
        (fun _ _ _ _ _ => pe_glob (v := .str "on") rfl g1 ⟨t1, rfl⟩))
      (pss_cons (ps_set (i := 3) scWhole.nd rfl (.inl rfl) (pe_def D1 (hr.mono (by decide)) (by rfl) (pa_cons (pv 0) (pa_cons (pv 1) pa_nil))))
      (pss_cons (ps_for PassesOwn.never rfl (pi_range1 (by rfl) T.range (pa_cons (pe_callB call_len_seq (by rfl) T.len PySem.boot_len (pa_cons (pv 2) pa_nil)) pa_nil)) (pg_name (i := 4) scWhole.nd rfl (.inl rfl))
        (pss_one (ps_if (PW.pt (pw_and (pt_cmpR op_notIn_seq (pv 4) (pv 3) (by rfl)) (pw_and1 (pt_not (pt_val (pe_def D2 (hr.mono (by decide)) (by rfl) (pa_cons (pv 0) (pa_cons (pv 1) (pa_cons (pv 4) (pa_cons (pe_glob (v := .str "on") rfl g1 ⟨t1, rfl⟩) pa_nil))))))))))
          (pss_one ps_never) pss_nil)))
      (pss_cons (ps_set (i := 5) scWhole.nd rfl (.inl rfl) (pe_def D3 (hr.mono (by decide)) (by rfl) (pa_cons (pv 0) (pa_cons (pv 3) pa_nil))))
      (pss_cons (ps_set (i := 6) scWhole.nd rfl (.inl rfl) (pe_glob (v := .ref a0) rfl g0 rfl))
      (pss_cons (ps_for PassesOwn.never rfl (pi_list (pe_def D4 (hr.mono (by decide)) (by rfl) (pa_cons (pv 0) (pa_cons (pv 3) pa_nil)))) (pg_name (i := 4) scWhole.nd rfl (.inl rfl))
        (pss_cons (ps_asg (pe_def D8 (hr.mono (by decide)) (by rfl) (pa_cons (pv 0) (pa_cons (pv 4) pa_nil))) (pg_sub (pv 2) (pv 4) set_list))
        (pss_cons (ps_if (pt_val (pe_def D7 (hr.mono (by decide)) (by rfl) (pa_cons (pv 5) (pa_cons (pe_def D5 (hr.mono (by decide)) (by rfl) (pa_cons (pv 6) (pa_cons (pe_def D6 hr (by rfl) (pa_cons (pv 0) (pa_cons (pv 1) (pa_cons (pv 4) (pa_cons (pe_ix ix_list (pv 2) (pv 4) (fun _ _ => rfl)) pa_nil))))) pa_nil))) pa_nil))))
          (pss_one (ps_asg (pe_def D9 (hr.mono (by decide)) (by rfl) (pa_cons (pe_ix ix_list (pv 2) (pv 4) (fun _ _ => rfl)) pa_nil)) (pg_sub (pv 2) (pv 4) set_list))) pss_nil)
        (pss_one (ps_set (i := 6) scWhole.nd rfl (.inl rfl) (pe_def D5 (hr.mono (by decide)) (by rfl) (pa_cons (pv 6) (pa_cons (pe_def D6 hr (by rfl) (pa_cons (pv 0) (pa_cons (pv 1) (pa_cons (pv 4) (pa_cons (pe_ix ix_list (pv 2) (pv 4) (fun _ _ => rfl)) pa_nil))))) pa_nil))))))))
      (pss_one (ps_ret (pv 2)))))))), ?_⟩
    -- ways = [ON for ask in ring[1]]
    refine r_asks rfl C.ring fun al g L => ?_
    refine ⟨al, rfl, ⟨_, SqL.of L.lst⟩, fun W hW => ?_⟩
    refine lc_it (walk_list (K := K) (a := al) (xs := refs m g)) (fun i H' => Same H H' ∧ H' W = some (.lst (wayV i fun _ => true))) ⟨same_new hW, upd_same⟩ ?_ ?_ ?_
    · rintro i H' _ ⟨s1, _⟩
      exact SqL.of (s1 _ _ L.lst)
    · rintro i v H1 H2 hi ⟨s1, h1⟩ ⟨rfl, hv⟩
      rw [refs_len] at hi
      refine ⟨rfl, ?_⟩
      refine ⟨_, h1, ?_, same_mut s1 hW, ?_⟩
      · rw [wayV_len]
        exact small5 (by omega)
      · rw [upd_same, wayV_succ]
        rfl
    rintro H1 ⟨s1, hw1⟩
    rw [refs_len] at hw1
    have C1 := C.same s1
    refine ⟨_, rfl, _, rfl, r, sd, h, n, m, A, q, rfl, C1, fun H2 p s2 _ hp => ?_⟩
    have hw2 := s2 _ _ hw1
    -- for k in range(len(ways)): none goes whole
    refine ⟨_, rfl, W, _, rfl, .inl (SqL.of hw2), _, rfl, ?_⟩
    rw [wayV_len]
    refine ⟨by omega, by omega, ?_⟩
    rw [Int.toNat_natCast]
    refine for_it walk_range0 (fun i σ H' => H' = H2 ∧ ∃ v4 : Option V, σ = [some (.ref r), some (.ref sd), some (.ref W), some (.ref p), v4, none, none, none]) ⟨rfl, none, rfl⟩ (fun _ _ _ _ _ => trivial) ?_ ?_
    · rintro i v σ H3 H4 hi ⟨rfl, v4, rfl⟩ ⟨rfl, rfl⟩
      refine ⟨_, rfl, _, rfl, p, _, rfl, .inl (SqL.of hp), rfl, flat_nums _, _, rfl, ?_⟩
      rw [not_in_nums hi]
      refine iteF (iteF ?_)
      exact ⟨rfl, _, rfl⟩
    rintro σ H3 ⟨rfl, v4, rfl⟩
    have C2 := C1.same s2
    refine ⟨_, rfl, _, rfl, r, p, h, n, m, A, rfl, C2.ch, C2.ring, hp, fun H4 ms s4 hms => ?_⟩
    have C4 := C2.same s4
    refine ⟨_, rfl, _, rfl, r, p, h, n, m, A, rfl, C4.ch, C4.ring, s4 _ _ hp, fun H5 o s5 ho => ?_⟩
    have C5 := C4.same s5
    have sN : Same H H5 := s1.trans (s2.trans (s4.trans s5))
    have hW5 := s5 _ _ (s4 _ _ hw2)
    have keepW : ∀ {H' : Hp} {ys zs : List V}, H' W = some (.lst zs) → Same H H' → Same H (upd H' W (.lst ys)) := fun _ sx => same_mut sx hW
    -- for k in in_order(ring, parted)
    refine ⟨o, rfl, ⟨_, SqL.of ho⟩, for_it (walk_list (K := K) (a := o) (xs := nums (ord m A))) (fun i σ H' => Same H H' ∧ H' o = some (.lst (nums (ord m A))) ∧ FR K H' ms (most A m * hf) ∧ ∃ (w : Nat → Bool) (x : Addr) (v4 : Option V),
        WaysAt H' m W w ∧ (∀ j, j ≤ i → okAt m A q w j) ∧ σ = [some (.ref r), some (.ref sd), some (.ref W), some (.ref p), v4, some (.ref ms), some (.ref x), none] ∧ FR K H' x (psum m A q w i))
      ⟨sN, ho, hms.same s5, fun _ => true, a0, _, hW5, fun j hj => by rw [Nat.le_zero.mp hj]; exact ok_zero m A q _, rfl, fr0 (t0 _)⟩ ?_ ?_ ?_⟩
    · rintro i σ H' _ ⟨_, ho', _⟩
      exact SqL.of ho'
    · rintro i v σ H6 H7 hi ⟨s6, ho6, hms6, w, x, v4, hw6, hok, rfl, hx⟩ ⟨rfl, hv⟩
      obtain ⟨k, hk, rfl⟩ := nums_of hv
      have hkm := ord_mem (List.mem_of_getElem? hk)
      have C6 := C.same s6
      have oW : o ≠ W := ne_of ho6 hw6 (nums_way C.ch.m1)
      -- ways[k] = rising_way(ring, k)
      refine ⟨_, rfl, _, rfl, r, k, h, n, m, A, rfl, h0, C6.ring, hkm, ?_⟩
      refine ⟨_, rfl, _, rfl, W, _, _, k, rfl, rfl, hw6, by rw [wayV_len]; exact ixN_nat hkm, ?_⟩
      rw [wayV_set]
      have him : i < m := by
        rw [nums_len, ord_len] at hi
        exact hi
      have s7 : Same H (upd H7 W (.lst (wayV m (updW w k (A k).up)))) := same_mut s6 hW
      have hw7 : WaysAt (upd H7 W (.lst (wayV m (updW w k (A k).up)))) m W (updW w k (A k).up) := upd_same
      have hx7 := hx.keep (ys := wayV m (updW w k (A k).up)) hw6
      have hms7 := hms6.keep (ys := wayV m (updW w k (A k).up)) hw6
      have ho7 : (upd H7 W (.lst (wayV m (updW w k (A k).up)))) o = some (.lst (nums (ord m A))) := by
        rw [upd_ne oW]
        exact ho6
      generalize upd H7 W (.lst (wayV m (updW w k (A k).up))) = H8 at s7 hw7 hx7 hms7 ho7 ⊢
      have C7 := C.same s7
      have wk : updW w k (A k).up k = (A k).up := updW_same _ _ _
      have hb1 := halfm_bd C.ch
      have hbp : Bd 3900 (psum m A q w i) := (psum_bd C.ch C.st i).mono (by decide)
      have hbr : ∀ b, Bd 3900 (row (A k) (q k) b) := fun b => (row_bd (C.ch.bd k hkm) (C.st.bd k hkm)).mono (by decide)
      -- if under(most, plus(total, gain_by(..)))
      refine ⟨_, rfl, _, rfl, _, rfl, _, rfl, _, rfl, _, rfl, _, rfl, W, _, _, _, rfl, rfl, SqL.of hw7, atI_nat (wayV_at hkm), ?_⟩
      refine ⟨r, sd, k, h, n, m, A, q, updW w k (A k).up k, rfl, C7, hkm, fun H9 y s9 hy => ?_⟩
      rw [wk] at hy
      refine ⟨x, y, _, _, rfl, hx7.same s9, hy, hbp, hbr _, fun H10 z s10 hz => ?_⟩
      have sA := s7.trans (s9.trans s10)
      refine ⟨ms, z, _, _, rfl, (hms7.same s9).same s10, hz, hb1, ?_, _, rfl, ?_⟩
      · exact ((psum_bd C.ch C.st i).add (row_bd (C.ch.bd k hkm) (C.st.bd k hkm))).mono (by decide)
      have hz : FR K H10 z (psum m A q w i + row (A k) (q k) (A k).up) := hz
      have hwA := s10 _ _ (s9 _ _ hw7)
      have hoA := s10 _ _ (s9 _ _ ho7)
      have hmsA := (hms7.same s9).same s10
      have hxA := (hx7.same s9).same s10
      -- what follows: total = plus(total, gain_by(ring, behind, k, ways[k]))
      have fin : ∀ (b : Bool) (H' : Hp), Same H H' → H' o = some (.lst (nums (ord m A))) → FR K H' ms (most A m * hf) → FR K H' x (psum m A q w i) → WaysAt H' m W (updW w k b) → okAt m A q (updW w k b) (i + 1) →
          tAsg (tCall (spBin K fun q r => q + r) [] E0 (tCons (tVar 6) (tCons (tCall (spGain K) [] E0 (tCons (tVar 0) (tCons (tVar 1) (tCons (tVar 4) (tCons (tOp (rIxL K) (tVar 2) (tVar 4)) tNil))))) tNil))) (gName 6)
            { nx := fun σ H' => Same H H' ∧ H' o = some (.lst (nums (ord m A))) ∧ FR K H' ms (most A m * hf) ∧ ∃ (w : Nat → Bool) (x : Addr) (v4 : Option V),
                WaysAt H' m W w ∧ (∀ j, j ≤ i + 1 → okAt m A q w j) ∧ σ = [some (.ref r), some (.ref sd), some (.ref W), some (.ref p), v4, some (.ref ms), some (.ref x), none] ∧ FR K H' x (psum m A q w (i + 1)),
              rt := Q } [some (.ref r), some (.ref sd), some (.ref W), some (.ref p), some (.int (k : Int)), some (.ref ms), some (.ref x), none] H' := by
        intro b H' t1 t2 t3 t4 t5 t6
        refine ⟨_, rfl, _, rfl, _, rfl, _, rfl, _, rfl, _, rfl, W, _, _, _, rfl, rfl, SqL.of t5, atI_nat (wayV_at hkm), ?_⟩
        refine ⟨r, sd, k, h, n, m, A, q, updW w k b k, rfl, C.same t1, hkm, fun HB y2 sB hy2 => ?_⟩
        rw [updW_same] at hy2
        refine ⟨x, y2, _, _, rfl, t4.same sB, hy2, hbp, hbr _, fun HC z2 sC hz2 => ?_⟩
        have sD := sB.trans sC
        refine ⟨t1.trans sD, sD _ _ t2, t3.same sD, updW w k b, z2, _, sD _ _ t5, fun j hj => ?_, rfl, ?_⟩
        · by_cases e : j = i + 1
          · rw [e]
            exact t6
          · exact okAt_upd hk (by omega) (hok j (by omega))
        · rw [psum_succ hk, psum_upd hk (Nat.le_refl i)]
          unfold rowF
          rw [updW_same]
          exact hz2
      by_cases c : most A m * hf < psum m A q w i + row (A k) (q k) (A k).up
      · rw [decide_eq_true c]
        refine iteT ?_
        refine ⟨_, rfl, _, rfl, W, _, _, _, rfl, rfl, SqL.of hwA, atI_nat (wayV_at hkm), ?_⟩
        refine ⟨updW w k (A k).up k, rfl, ?_⟩
        refine ⟨_, rfl, _, rfl, W, _, _, k, rfl, rfl, hwA, by rw [wayV_len]; exact ixN_nat hkm, ?_⟩
        rw [wayV_set, wk, updW_upd]
        exact fin (!(A k).up) _ (same_mut sA hW) (by rw [upd_ne oW]; exact hoA) (hmsA.keep hwA) (hxA.keep hwA) upd_same (greedy_down hkm C.st hk (hok i (Nat.le_refl i)) c)
      · rw [decide_eq_false c]
        refine iteF ?_
        exact fin (A k).up _ sA hoA hmsA hxA hwA (greedy_up hkm C.st hk (hok i (Nat.le_refl i)) c)
    · rintro σ H6 ⟨s6, ho6, hms6, w, x, v4, hw6, hok, rfl, hx⟩
      rw [nums_len, ord_len] at hok
      exact ⟨_, rfl, kq H6 W w s6 hw6 fun i hi => hok (i + 1) (by omega)⟩
end
end K40
namespace K40
open PySem PyProof.Rows L2
section
variable {P : Program} {w : World} {K : PySem.W.Frag} {mg : Str → Option Value} {base : Heap}
def spLets (K : PySem.W.Frag) : Sp := fun vs H Q _ => ∃ (r sd th e wl : Addr) (h n m : Nat) (A : Nat → Ask) (q : Nat → Rat) (w : Nat → Bool), vs = [.ref r, .ref sd, .ref th] ∧ Cxt K H h n m r sd A q ∧ H th = some (.tup [.ref e, .ref wl]) ∧ H e = some (.lst []) ∧ WaysAt H m wl w ∧
  ∀ (H' : Hp) (b : Bool), Same H H' → (b = true ↔ Due m A q w) → Q (.bl b) H'
theorem scLets : FnScope ["ring", "sending", "thing", "behind"] ["ring", "sending", "thing"] (defScope (top 54)) := ⟨rfl, rfl, rfl, by decide +kernel, rfl, by decide +kernel, by decide +kernel⟩
theorem d_lets (T : Top K mg) : Ok P w K mg base 7 "lets_rounding" ["ring", "sending", "thing"] (spLets K) := by
  have D1 : Ok P w K mg base 1 "are_ways" ["ring", "thing"] (spWays K) := d_ways T
  have D2 : Ok P w K mg base 2 "behind_or_none" ["ring", "sending", "thing"] (spSlid K) := d_behind T
  have D3 : Ok P w K mg base 2 "all_cross" ["ring", "some"] (spAllX K) := d_allX T
  have D4 : Ok P w K mg base 3 "parted_in" ["ring", "sending"] (spParted K) := d_parted T
  have D5 : Ok P w K mg base 6 "are_rounded" ["ring", "behind", "ways"] (spRounded K) := d_rounded T
  refine mk_ok (k := 6) T.lets scLets (fun vs H Q E h => ?_) (fun _ _ _ _ _ _ us hl => match us, hl with | [_, _, _], _ => rfl) (fun f cdv A outer s H vs Q E hr h => ?_)
  · obtain ⟨_, _, _, _, _, _, _, _, _, _, _, rfl, _⟩ := h
    rfl
  · obtain ⟨r, sd, th, e, wl, h, n, m, A, q, w, rfl, C, hth, he, hw, kq⟩ := h
    refine ⟨_, pss_cons (ps_if (PW.pt (pw_or (pt_not (pt_val (pe_callB RZ.call_isTy (by rfl) T.isinstance (by decide +kernel) (pa_cons (pv 2) (pa_cons (pe_bltn (v := .ty "tuple") (by rfl) T.tuple (by decide +kernel) rfl) pa_nil)))))
        (pw_or (pt_cmpR op_ne (pe_callB call_len_seq (by rfl) T.len PySem.boot_len (pa_cons (pv 2) pa_nil)) pe_int (nomark _))
        (pw_or1 (pt_not (pt_val (pe_def D1 (hr.mono (by decide)) (by rfl) (pa_cons (pv 0) (pa_cons (pe_ix ix_tup (pv 2) pe_int (fun _ _ => rfl)) pa_nil))))))))) (pss_one (ps_ret pe_bl)) pss_nil)
      (pss_cons (ps_set (i := 3) scLets.nd rfl (.inl rfl) (pe_def D2 (hr.mono (by decide)) (by rfl) (pa_cons (pv 0) (pa_cons (pv 1) (pa_cons (pe_ix ix_tup (pv 2) pe_int (fun _ _ => rfl)) pa_nil)))))
      (pss_cons (ps_if (PW.pt (pw_or (pt_cmpR op_isN (pv 3) pe_non (nomark _))
        (pw_or1 (pt_not (pt_val (pe_def D3 (hr.mono (by decide)) (by rfl) (pa_cons (pv 0) (pa_cons (pe_def D4 (hr.mono (by decide)) (by rfl) (pa_cons (pv 0) (pa_cons (pv 3) pa_nil))) pa_nil)))))))) (pss_one (ps_ret pe_bl)) pss_nil)
      (pss_one (ps_ret (pe_def D5 hr (by rfl) (pa_cons (pv 0) (pa_cons (pv 3) (pa_cons (pe_ix ix_tup (pv 2) pe_int (fun _ _ => rfl)) pa_nil)))))))), ?_⟩
    have hm5 := C.ch.m5
    refine ⟨_, rfl, .ref th, "tuple", rfl, .tup hth, true, rfl, iteF ?_⟩
    refine ⟨_, rfl, th, _, rfl, .inr (SqT.of hth), rfl, _, rfl, iteF ?_⟩
    refine ⟨_, rfl, _, rfl, th, _, 1, .ref wl, rfl, rfl, SqT.of hth, rfl, ?_⟩
    refine ⟨r, wl, h, n, m, A, w, rfl, hm5, C.ring, hw, fun H1 s1 => ?_⟩
    refine ⟨true, rfl, iteF ?_⟩
    refine ⟨_, rfl, _, rfl, _, rfl, th, _, 0, .ref e, rfl, rfl, SqT.of (s1 _ _ hth), rfl, ?_⟩
    refine ⟨r, sd, e, m, q, rfl, hm5, C.send.same s1, s1 _ _ he, fun H2 p s2 hp => ?_⟩
    have s12 := s1.trans s2
    have C2 := C.same s12
    have C2 : Cxt K H2 h n m r p A q := ⟨C2.ch, C2.st, C2.ring, hp⟩
    refine ⟨_, rfl, rfl, _, rfl, iteF ?_⟩
    refine ⟨_, rfl, _, rfl, _, rfl, r, p, h, n, m, A, q, rfl, C2, fun H3 x s3 _ hx => ?_⟩
    refine ⟨r, x, h, n, m, A, rfl, C2.ch, C2.ring.same s3, hx, fun H4 s4 => ?_⟩
    refine ⟨true, rfl, iteF ?_⟩
    have s34 := s3.trans s4
    refine ⟨_, rfl, _, rfl, _, rfl, th, _, 1, .ref wl, rfl, rfl, SqT.of (s34 _ _ (s12 _ _ hth)), rfl, ?_⟩
    exact ⟨r, p, wl, h, n, m, A, q, w, rfl, C2.same s34, s34 _ _ (s12 _ _ hw), fun H5 b s5 hb => kq H5 b (s12.trans (s34.trans s5)) hb⟩
def spRounding (K : PySem.W.Frag) : Sp := fun vs H Q _ => ∃ (r sd : Addr) (h n m : Nat) (A : Nat → Ask) (q : Nat → Rat), vs = [.ref r, .ref sd] ∧ Cxt K H h n m r sd A q ∧
  ∀ (H' : Hp) (p e wl : Addr) (w : Nat → Bool), Same H H' → H' p = some (.tup [.ref e, .ref wl]) → H' e = some (.lst []) → WaysAt H' m wl w → Due m A q w → Q (.ref p) H'
theorem scRounding : FnScope ["ring", "sending", "slides"] ["ring", "sending"] (defScope (top 56)) := ⟨rfl, rfl, rfl, by decide +kernel, rfl, by decide +kernel, by decide +kernel⟩
theorem d_rounding (T : Top K mg) : Ok P w K mg base 7 "rounding_of" ["ring", "sending"] (spRounding K) := by
  have D1 : Ok P w K mg base 5 "slides_for" ["ring", "sending"] (spSlides K) := d_slides T
  have D2 : Ok P w K mg base 6 "whole_ways" ["ring", "behind"] (spWhole K) := d_whole T
  have D3 : Ok P w K mg base 1 "slid_by" ["ring", "sending", "thing"] (spSlid K) := d_slid T
  refine mk_ok (k := 6) T.rounding_of scRounding (fun vs H Q E h => ?_) (fun _ _ _ _ _ _ us hl => match us, hl with | [_, _], _ => rfl) (fun f cdv A outer s H vs Q E hr h => ?_)
  · obtain ⟨_, _, _, _, _, _, _, rfl, _⟩ := h
    rfl
  · obtain ⟨r, sd, h, n, m, A, q, rfl, C, kq⟩ := h
    refine ⟨_, pss_cons (ps_set (i := 2) scRounding.nd rfl (.inl rfl) (pe_def D1 (hr.mono (by decide)) (by rfl) (pa_cons (pv 0) (pa_cons (pv 1) pa_nil))))
      (pss_one (ps_ret (pe_tup (pa_cons (pv 2) (pa_cons (pe_def D2 hr (by rfl) (pa_cons (pv 0) (pa_cons (pe_def D3 (hr.mono (by decide)) (by rfl) (pa_cons (pv 0) (pa_cons (pv 1) (pa_cons (pv 2) pa_nil)))) pa_nil))) pa_nil))))), ?_⟩
    refine ⟨_, rfl, _, rfl, r, sd, h, n, m, A, q, rfl, C, fun H1 e s1 he => ?_⟩
    have C1 := C.same s1
    refine ⟨_, rfl, _, rfl, _, rfl, _, rfl, _, rfl, r, sd, e, m, q, rfl, C.ch.m5, C1.send, he, fun H2 p s2 hp => ?_⟩
    have C2 := C1.same s2
    refine ⟨r, p, h, n, m, A, q, rfl, ⟨C2.ch, C2.st, C2.ring, hp⟩, fun H3 wl w s3 hw hd => ?_⟩
    refine ⟨(by show 2 ≤ sizeLine; decide), fun t ht => ?_⟩
    have s4 := same_new (o := .tup [.ref e, .ref wl]) ht
    exact kq _ t e wl w (s1.trans (s2.trans (s3.trans s4))) upd_same (s4 _ _ (s3 _ _ (s2 _ _ he))) (s4 _ _ hw) hd
end
end K40
namespace K40
open PySem PyProof.Rows L2
/-! ### the law's draws -/
def StateAt (H : Hp) (p : Addr) : Prop := ∃ (c x : Int) (b : Bool), H p = some (.lst [.int c, .int x, .bl b]) ∧ 0 ≤ x ∧ x < 2147483648
/-- all but p is as it was -/
def But (p : Addr) (H H' : Hp) : Prop := ∀ b o, b ≠ p → H b = some o → H' b = some o
theorem But.refl (p : Addr) (H : Hp) : But p H H := fun _ _ _ h => h
theorem But.trans {p : Addr} {H H1 H2 : Hp} (a : But p H H1) (b : But p H1 H2) : But p H H2 := fun c o hc h => b c o hc (a c o hc h)
theorem But.of_same {p : Addr} {H H' : Hp} (s : Same H H') : But p H H' := fun b o _ h => s b o h
theorem But.upd {p : Addr} {H : Hp} {o : HO} : But p H (upd H p o) := fun b u hb h => by
  rw [upd_ne hb]
  exact h
theorem But.same {p : Addr} {H0 H H' : Hp} (s : Same H0 H) (e : But p H H') (h : H0 p = none) : Same H0 H' := fun b o q => e b o (ne_of_none q h) (s b o q)
theorem tup_but {K : PySem.W.Frag} {H H' : Hp} {p a : Addr} {zs xs : List V} (hp : H p = some (.lst zs)) (e : But p H H') (h : SqT K H a xs) : SqT K H' a xs := by
  rcases h with (h | ⟨o, h⟩) | h
  · exact .inl (.inl (e _ _ (ne_of h hp (fun e => HO.noConfusion e)) h))
  · exact .inl (.inr ⟨o, e _ _ (ne_of h hp (fun e => HO.noConfusion e)) h⟩)
  · exact .inr h
theorem StateAt.but {H H' : Hp} {p a : Addr} (h : StateAt H a) (e : But p H H') (n : a ≠ p) : StateAt H' a := by
  obtain ⟨c, x, b, h1, h2, h3⟩ := h
  exact ⟨c, x, b, e _ _ n h1, h2, h3⟩
theorem StateAt.same {H H' : Hp} {a : Addr} (h : StateAt H a) (e : Same H H') : StateAt H' a := by
  obtain ⟨c, x, b, h1, h2, h3⟩ := h
  exact ⟨c, x, b, e _ _ h1, h2, h3⟩
section
variable {P : Program} {w : World} {K : PySem.W.Frag} {mg : Str → Option Value} {base : Heap}
def spBegun (K : PySem.W.Frag) : Sp := fun vs H Q _ => ∃ (a : Addr) (ns : List Int) (k : Nat), vs = [.ref a, .int (k : Int)] ∧ SqL K H a (ns.map V.int) ∧ k ≤ 3 ∧ ∀ (H' : Hp) (p : Addr), Same H H' → H p = none → StateAt H' p → Q (.ref p) H'
theorem scBegun : FnScope ["_law_script", "_law_k", "_law_cell"] ["_law_script", "_law_k"] (defScope (top 60)) := ⟨rfl, rfl, rfl, by decide +kernel, rfl, by decide +kernel, by decide +kernel⟩
theorem d_begun (T : Top K mg) : Ok P w K mg base 1 "_law_begun" ["_law_script", "_law_k"] (spBegun K) := by
  refine mk_ok (k := 0) T.l_begun scBegun (fun vs H Q E h => ?_) (fun _ _ _ _ _ _ us hl => match us, hl with | [_, _], _ => rfl) (fun f cdv A outer s H vs Q E hr h => ?_)
  · obtain ⟨_, _, _, rfl, _⟩ := h
    rfl
  · obtain ⟨a, ns, k, rfl, hS, hk, kq⟩ := h
    refine ⟨_, pss_cons (ps_set (i := 2) scBegun.nd rfl (.inl rfl) pe_int)
      (pss_cons (ps_if (pt_cmpR op_lt (pv 1) (pe_callB call_len_seq (by rfl) T.len PySem.boot_len (pa_cons (pv 0) pa_nil)) (nomark _)) (pss_one (ps_set (i := 2) scBegun.nd rfl (.inl rfl) (pe_ix ix_list (pv 0) (pv 1) (fun _ _ => rfl)))) pss_nil)
      (pss_one (ps_ret (pe_lst (pa_cons (pv 2) (pa_cons (pe_op op_mod (pe_op op_add (pe_op op_add (pe_op op_mod (pv 2) pe_int) (pe_op op_mul (pe_op op_mul pe_int (pv 1)) (pv 1))) pe_int) pe_int)
        (pa_cons (pe_cmpR op_ge (pv 2) (pe_op op_pow pe_int pe_int) (nomark _)) pa_nil))))))), ?_⟩
    have fin : ∀ c : Int, tRet (tLst (tCons (tVar 2) (tCons (tOp (rI (fun _ j => 0 < j) fun i j => V.int (i % j)) (tOp (rI0 fun i j => V.int (i + j)) (tOp (rI0 fun i j => V.int (i + j)) (tOp (rI (fun _ j => 0 < j) fun i j => V.int (i % j)) (tVar 2) (tC (.int 2147483587))) (tOp (rI (fun i j => (-(2 ^ 64) < i ∧ i < 2 ^ 64) ∨ (-(2 ^ 64) < j ∧ j < 2 ^ 64)) fun i j => V.int (i * j)) (tOp (rI (fun i j => (-(2 ^ 64) < i ∧ i < 2 ^ 64) ∨ (-(2 ^ 64) < j ∧ j < 2 ^ 64)) fun i j => V.int (i * j)) (tC (.int 48271)) (tVar 1)) (tVar 1))) (tC (.int 13))) (tC (.int 2147483587)))
        (tCons (tOp (rI0 fun i j => V.bl (decide (i ≥ j))) (tVar 2) (tOp (rI CPow fun i j => V.int (i ^ j.toNat)) (tC (.int 10)) (tC (.int 18)))) tNil)))) { nx := fun _ H' => Q .non H', rt := Q } [some (.ref a), some (.int (k : Int)), some (.int c)] H := by
      intro c
      refine ⟨_, rfl, _, rfl, _, _, rfl, rfl, (by show (0 : Int) < 2147483587; decide), _, rfl, _, _, rfl, rfl, .inl ⟨by decide, by decide⟩, _, rfl, _, _, rfl, rfl, .inr (by omega), _, _, rfl, rfl, _, _, rfl, rfl, _, _, rfl, rfl, (by show (0 : Int) < 2147483587; decide), ?_⟩
      refine ⟨_, rfl, _, _, rfl, rfl, ⟨by decide, by decide, by decide⟩, _, _, rfl, rfl, (by show 3 ≤ sizeLine; decide), fun p hp => ?_⟩
      refine kq _ p (same_new hp) hp ⟨_, _, _, upd_same, Int.emod_nonneg _ (by decide), ?_⟩
      exact Int.lt_of_lt_of_le (Int.emod_lt_of_pos _ (by decide)) (by decide)
    refine ⟨_, rfl, _, rfl, a, _, rfl, .inl hS, _, _, rfl, rfl, _, rfl, ?_⟩
    rw [List.length_map]
    by_cases c : (k : Int) < (ns.length : Int)
    · rw [decide_eq_true c]
      refine iteT ?_
      have hk2 : k < ns.length := by omega
      have e : (ns.map V.int)[k]? = some (.int ns[k]) := by
        rw [List.getElem?_map, List.getElem?_eq_getElem hk2]
        rfl
      refine ⟨_, rfl, _, rfl, a, _, _, _, rfl, rfl, hS, atI_nat e, ?_⟩
      exact fin ns[k]
    · rw [decide_eq_false c]
      refine iteF ?_
      exact fin 0
def spTake : Sp := fun vs H Q _ => ∃ (p : Addr) (many : Int), vs = [.ref p, .int many] ∧ StateAt H p ∧ 0 < many ∧ many.natAbs < 2 ^ 8000 ∧ ∀ (H' : Hp) (d : Int), But p H H' → StateAt H' p → 0 ≤ d → d < many → Q (.int d) H'
theorem scTake : FnScope ["_law_state", "_law_many", "_law_digit", "_law_drawn", "_law_turn"] ["_law_state", "_law_many"] (defScope (top 61)) := ⟨rfl, rfl, rfl, by decide +kernel, rfl, by decide +kernel, by decide +kernel⟩
theorem d_take (T : Top K mg) : Ok P w K mg base 1 "_law_take" ["_law_state", "_law_many"] spTake := by
  refine mk_ok (k := 0) T.l_take scTake (fun vs H Q E h => ?_) (fun _ _ _ _ _ _ us hl => match us, hl with | [_, _], _ => rfl) (fun f cdv A outer s H vs Q E hr h => ?_)
  · obtain ⟨_, _, rfl, _⟩ := h
    rfl
  · obtain ⟨p, many, rfl, ⟨c, x, b, hp, hx0, hx1⟩, h0, hz, kq⟩ := h
    refine ⟨_, pss_cons (ps_if (pt_val (pe_ix ix_list (pv 0) pe_int (fun _ _ => rfl)))
        (pss_cons (ps_set (i := 2) scTake.nd rfl (.inl rfl) (pe_op op_modN (pe_ix ix_list (pv 0) pe_int (fun _ _ => rfl)) (pv 1)))
        (pss_cons (ps_asg (pe_op op_fdivW (pe_ix ix_list (pv 0) pe_int (fun _ _ => rfl)) (pv 1)) (pg_sub (pv 0) pe_int set_list))
        (pss_cons (ps_asg (pe_cmpR op_gt (pe_ix ix_list (pv 0) pe_int (fun _ _ => rfl)) pe_int (nomark _)) (pg_sub (pv 0) pe_int set_list))
        (pss_one (ps_ret (pv 2)))))) pss_nil)
      (pss_cons (ps_set (i := 3) scTake.nd rfl (.inl rfl) pe_int)
      (pss_cons (ps_for PassesOwn.never rfl (pi_range1 (by rfl) T.range (pa_cons (pe_op op_add pe_int (pe_op op_mul pe_int (pe_callTy call_int1 (by rfl) T.int (by decide +kernel) (pa_cons (pe_cmpR op_gt (pv 1) (pe_op op_pow pe_int pe_int) (nomark _)) pa_nil)))) pa_nil)) (pg_name (i := 4) scTake.nd rfl (.inl rfl))
        (pss_cons (ps_asg (pe_op op_mod (pe_op op_add (pe_op op_mul (pe_ix ix_list (pv 0) pe_int (fun _ _ => rfl)) pe_int) pe_int) pe_int) (pg_sub (pv 0) pe_int set_list))
        (pss_one (ps_set (i := 3) scTake.nd rfl (.inl rfl) (pe_op op_add (pe_op op_mul (pv 3) pe_int) (pe_op op_mod (pe_op op_mul (pe_ix ix_list (pv 0) pe_int (fun _ _ => rfl)) (pe_ix ix_list (pv 0) pe_int (fun _ _ => rfl))) pe_int))))))
      (pss_one (ps_ret (pe_op op_modN (pe_op op_fdiv (pv 3) pe_int) (pv 1)))))), ?_⟩
    have hmd : ∀ z : Int, 0 ≤ z.fmod many ∧ z.fmod many < many := fun z => by
      rw [Int.fmod_eq_emod_of_nonneg z (by omega)]
      exact ⟨Int.emod_nonneg _ (by omega), Int.emod_lt_of_pos _ h0⟩
    refine ⟨_, rfl, p, _, 2, _, rfl, rfl, SqL.of hp, rfl, b, rfl, ?_⟩
    cases b
    · refine iteF ?_
      refine ⟨_, rfl, _, _, rfl, rfl, ⟨by decide, by decide, by decide⟩, _, _, rfl, rfl, .inr ⟨_, rfl, _, _, rfl, rfl, .inl ⟨by decide, by decide⟩, _, _, rfl, rfl, _, rfl, ?_, ?_, ?_⟩⟩
      · split <;> decide
      · split <;> decide
      refine for_it walk_range0 (fun i σ H' => But p H H' ∧ StateAt H' p ∧ ∃ (d : Int) (v4 : Option V), σ = [some (.ref p), some (.int many), none, some (.int d), v4]) ⟨But.refl p H, ⟨c, x, false, hp, hx0, hx1⟩, 0, none, rfl⟩ (fun _ _ _ _ _ => trivial) ?_ ?_
      · rintro i v σ H1 H2 hi ⟨b1, ⟨c1, x1, k1, hp1, h10, h11⟩, d, v4, rfl⟩ ⟨rfl, rfl⟩
        refine ⟨_, rfl, p, _, 1, _, rfl, rfl, SqL.of hp1, rfl, _, _, rfl, rfl, .inr ⟨by decide, by decide⟩, _, _, rfl, rfl, _, _, rfl, rfl, (by show (0 : Int) < 2147483647; decide), ?_⟩
        refine ⟨_, rfl, p, _, 1, 1, rfl, rfl, hp1, rfl, ?_⟩
        have hy0 : 0 ≤ (x1 * 39373 + 17) % 2147483647 := Int.emod_nonneg _ (by decide)
        have hy1 : (x1 * 39373 + 17) % 2147483647 < 2147483647 := Int.emod_lt_of_pos _ (by decide)
        have hp2 : (upd H2 p (.lst ([V.int c1, .int x1, .bl k1].set 1 (.int ((x1 * 39373 + 17) % 2147483647))))) p = some (.lst [.int c1, .int ((x1 * 39373 + 17) % 2147483647), .bl k1]) := upd_same
        refine ⟨_, rfl, _, _, rfl, rfl, .inr ⟨by decide, by decide⟩, _, rfl, p, _, 1, _, rfl, rfl, SqL.of hp2, rfl, _, rfl, p, _, 1, _, rfl, rfl, SqL.of hp2, rfl, _, _, rfl, rfl, .inl ⟨by omega, by omega⟩, _, _, rfl, rfl, (by show (0 : Int) < 2147483629; decide), _, _, rfl, rfl, ?_⟩
        exact ⟨b1.trans But.upd, ⟨c1, _, k1, hp2, hy0, by omega⟩, _, _, rfl⟩
      · rintro σ H1 ⟨b1, st, d, v4, rfl⟩
        refine ⟨_, rfl, _, _, rfl, rfl, ⟨by decide, by decide⟩, _, rfl, _, _, rfl, rfl, (by omega), ?_⟩
        exact kq H1 _ b1 st (hmd _).1 (hmd _).2
    · refine iteT ?_
      refine ⟨_, rfl, p, _, 0, _, rfl, rfl, SqL.of hp, rfl, _, rfl, _, _, rfl, rfl, (by omega), ?_⟩
      refine ⟨_, rfl, p, _, 0, _, rfl, rfl, SqL.of hp, rfl, _, rfl, _, _, rfl, rfl, wide_div h0 hz (by decide) (by decide), ?_⟩
      refine ⟨_, rfl, p, _, 0, 0, rfl, rfl, hp, rfl, ?_⟩
      have hp2 : (upd H p (.lst ([V.int c, .int x, .bl true].set 0 (.int (c / many))))) p = some (.lst [.int (c / many), .int x, .bl true]) := upd_same
      refine ⟨_, rfl, p, _, 0, _, rfl, rfl, SqL.of hp2, rfl, _, _, rfl, rfl, ?_⟩
      refine ⟨_, rfl, p, _, 2, 2, rfl, rfl, hp2, rfl, ?_⟩
      refine ⟨_, rfl, ?_⟩
      exact kq _ _ (But.upd.trans But.upd) ⟨c / many, x, _, upd_same, hx0, hx1⟩ (hmd c).1 (hmd c).2
end
end K40
namespace K40
open PySem PyProof.Rows L2
theorem mkRat_pos {t : Int} {b : Nat} (ht : 0 < t) (hb : 0 < b) : 0 < mkRat t b := by
  have h1 : 0 ≤ mkRat t b := by
    rw [← Rat.num_nonneg, Rat.num_mkRat, if_neg (by omega)]
    exact Int.ediv_nonneg (by omega) (by omega)
  have h2 : mkRat t b ≠ 0 := (Rat.mkRat_ne_zero (by omega)).mpr (by omega)
  exact Rat.lt_of_le_of_ne h1 (Ne.symm h2)
section
variable {P : Program} {w : World} {K : PySem.W.Frag} {mg : Str → Option Value} {base : Heap}
def spAmount (K : PySem.W.Frag) : Sp := fun vs H Q _ => ∃ (p : Addr) (k : Nat), vs = [.ref p, .int 1, .int (k : Int)] ∧ StateAt H p ∧ k < 5 ∧ ∀ (H' : Hp) (x : Addr) (s : Rat), But p H H' → StateAt H' p → FR K H' x s → 0 < s → Bd 50 s → Q (.ref x) H'
theorem scAmount : FnScope ["_law_state", "_law_least", "_law_kind", "_law_bottom", "_law_top"] ["_law_state", "_law_least", "_law_kind"] (defScope (top 63)) := ⟨rfl, rfl, rfl, by decide +kernel, rfl, by decide +kernel, by decide +kernel⟩
theorem kinds1 {k : Nat} (h : k < 5) : ∃ z : Int, ([V.int 1, .int 1, .int 4, .int 12, .int 12] : List V)[k]? = some (.int z) ∧ 0 < z ∧ z ≤ 12 := by
  match k, h with
  | 0, _ => exact ⟨1, rfl, by decide, by decide⟩
  | 1, _ => exact ⟨1, rfl, by decide, by decide⟩
  | 2, _ => exact ⟨4, rfl, by decide, by decide⟩
  | 3, _ => exact ⟨12, rfl, by decide, by decide⟩
  | 4, _ => exact ⟨12, rfl, by decide, by decide⟩
theorem kinds2 {k : Nat} (h : k < 5) : ∃ z : Int, ([V.int 3, .int 10, .int 10, .int 40, .int (10 ^ (12 : Int).toNat)] : List V)[k]? = some (.int z) ∧ 0 < z ∧ z ≤ 1000000000000 := by
  match k, h with
  | 0, _ => exact ⟨3, rfl, by decide, by decide⟩
  | 1, _ => exact ⟨10, rfl, by decide, by decide⟩
  | 2, _ => exact ⟨10, rfl, by decide, by decide⟩
  | 3, _ => exact ⟨40, rfl, by decide, by decide⟩
  | 4, _ => exact ⟨10 ^ (12 : Int).toNat, rfl, by decide, by decide⟩
theorem small_abs {z : Int} (h0 : 0 < z) (h : z ≤ 1000000000000) : z.natAbs < 2 ^ 8000 := Nat.lt_of_lt_of_le (show z.natAbs < 2 ^ 50 by omega) (Nat.pow_le_pow_right (by decide) (by decide))
theorem d_amount (T : Top K mg) : Ok P w K mg base 2 "_law_amount" ["_law_state", "_law_least", "_law_kind"] (spAmount K) := by
  have D1 : Ok P w K mg base 1 "_law_take" ["_law_state", "_law_many"] spTake := d_take T
  have D2 : Ok P w K mg base 1 "_law_low" ["_law_top", "_law_bottom"] (spLow K) := d_llow T
  refine mk_ok (k := 1) T.l_amount scAmount (fun vs H Q E h => ?_) (fun _ _ _ _ _ _ us hl => match us, hl with | [_, _, _], _ => rfl) (fun f cdv A outer s H vs Q E hr h => ?_)
  · obtain ⟨_, _, rfl, _⟩ := h
    rfl
  · obtain ⟨p, k, rfl, hp, hk, kq⟩ := h
    refine ⟨_, pss_cons (ps_set (i := 3) scAmount.nd rfl (.inl rfl) (pe_op op_add pe_int (pe_def D1 hr (by rfl) (pa_cons (pv 0) (pa_cons (pe_ix ix_list (pe_lst (pa_cons pe_int (pa_cons pe_int (pa_cons pe_int (pa_cons pe_int (pa_cons pe_int pa_nil)))))) (pv 2) (fun _ _ => rfl)) pa_nil)))))
      (pss_cons (ps_set (i := 4) scAmount.nd rfl (.inl rfl) (pe_op op_add (pv 1) (pe_def D1 hr (by rfl) (pa_cons (pv 0) (pa_cons (pe_ix ix_list (pe_lst (pa_cons pe_int (pa_cons pe_int (pa_cons pe_int (pa_cons pe_int (pa_cons (pe_op op_pow pe_int pe_int) pa_nil)))))) (pv 2) (fun _ _ => rfl)) pa_nil)))))
      (pss_one (ps_ret (pe_def D2 hr (by rfl) (pa_cons (pv 4) (pa_cons (pv 3) pa_nil)))))), ?_⟩
    obtain ⟨z1, hz1, h10, h11⟩ := kinds1 hk
    obtain ⟨z2, hz2, h20, h21⟩ := kinds2 hk
    refine ⟨_, rfl, (by show 5 ≤ sizeLine; decide), fun l1 hl1 => ?_⟩
    refine ⟨_, rfl, l1, _, _, _, rfl, rfl, lst_new, atI_nat hz1, ?_⟩
    have s1 := same_new (o := .lst [V.int 1, .int 1, .int 4, .int 12, .int 12]) hl1
    refine ⟨p, z1, rfl, hp.same s1, h10, small_abs h10 (by omega), fun H2 d1 b2 st2 hd0 hd1 => ?_⟩
    refine ⟨1, d1, rfl, rfl, ?_⟩
    refine ⟨_, rfl, _, rfl, _, _, rfl, rfl, ⟨by decide, by decide, by decide⟩, (by show 5 ≤ sizeLine; decide), fun l2 hl2 => ?_⟩
    refine ⟨_, rfl, l2, _, _, _, rfl, rfl, lst_new, atI_nat hz2, ?_⟩
    have s3 := same_new (o := .lst [V.int 3, .int 10, .int 10, .int 40, .int (10 ^ (12 : Int).toNat)]) hl2
    refine ⟨p, z2, rfl, st2.same s3, h20, small_abs h20 h21, fun H4 d2 b4 st4 hd2 hd3 => ?_⟩
    refine ⟨1, d2, rfl, rfl, ?_⟩
    have hb : ((1 : Int) + d1) = (((1 + d1).toNat : Nat) : Int) := by omega
    refine ⟨_, rfl, _, rfl, 1 + d2, (1 + d1).toNat, congrArg (fun z => [V.int (1 + d2), V.int z]) hb, by omega, ?_, fun H5 x s5 hx => ?_⟩
    · exact Nat.lt_of_lt_of_le (show (1 + d1).toNat < 2 ^ 50 by omega) (Nat.pow_le_pow_right (by decide) (by decide))
    refine kq H5 x _ (((But.of_same s1).trans b2).trans (((But.of_same s3).trans b4).trans (But.of_same s5))) (st4.same s5) hx (mkRat_pos (by omega) (by omega)) (bd_mk (by omega) ?_ ?_)
    · show (1 + d2).natAbs < 2 ^ 50
      omega
    · show (1 + d1).toNat < 2 ^ 50
      omega
/-! ### the law's rows -/
def RowsAt (K : PySem.W.Frag) (H : Hp) (m : Nat) (p : Addr) (A : Nat → Ask) (q : Nat → Rat) (w : Nat → Bool) : Prop := ∃ f : Nat → Addr, H p = some (.lst ((ord m A).map fun k => V.ref (f k))) ∧ ∀ k, k < m → ∃ g : Addr, H (f k) = some (.tup [.int ((A k).p : Int), .ref g]) ∧ FR K H g (rowF A q w k)
theorem RowsAt.same {K : PySem.W.Frag} {H H' : Hp} {m : Nat} {p : Addr} {A : Nat → Ask} {q : Nat → Rat} {w : Nat → Bool} (h : RowsAt K H m p A q w) (e : Same H H') : RowsAt K H' m p A q w := by
  obtain ⟨f, h1, h2⟩ := h
  refine ⟨f, e _ _ h1, fun k hk => ?_⟩
  obtain ⟨g, h3, h4⟩ := h2 k hk
  exact ⟨g, e _ _ h3, h4.same e⟩
def spSums (K : PySem.W.Frag) : Sp := fun vs H Q _ => ∃ (al sd wl : Addr) (g : Nat → Addr) (h n m : Nat) (A : Nat → Ask) (q : Nat → Rat) (w : Nat → Bool), vs = [.ref al, .ref sd, .ref wl] ∧ Chain h n m A ∧ Sent m A q ∧ AsksAt K H h m al A g ∧ SendAt K H m sd q ∧ WaysAt H m wl w ∧
  ∀ (H' : Hp) (p : Addr), Same H H' → RowsAt K H' m p A q w → Q (.ref p) H'
theorem scSums : FnScope ["_law_asks", "_law_sending", "_law_ways", "_law_rows", "_law_k", "_law_ask", "_law_gain"] ["_law_asks", "_law_sending", "_law_ways"] (defScope (top 68)) := ⟨rfl, rfl, rfl, by decide +kernel, rfl, by decide +kernel, by decide +kernel⟩
theorem gt_up {a : Ask} {h : Nat} (h0 : 0 < h) : decide ((a.oth h : Int) < (a.one h : Int)) = !a.up := by
  unfold Ask.one Ask.oth
  cases a.up
  · simp only [Bool.false_eq_true, if_false, Bool.not_false]
    exact decide_eq_true (by omega)
  · simp only [if_true, Bool.not_true]
    exact decide_eq_false (by omega)
theorem d_sums (T : Top K mg) : Ok P w K mg base 3 "_law_sums" ["_law_asks", "_law_sending", "_law_ways"] (spSums K) := by
  have D1 : Ok P w K mg base 2 "_law_minus" ["_law_one", "_law_other"] (spBin K fun q r => q - r) := d_l_minus T
  refine mk_ok (k := 2) T.l_sums scSums (fun vs H Q E h => ?_) (fun _ _ _ _ _ _ us hl => match us, hl with | [_, _, _], _ => rfl) (fun f cdv A outer s H vs Q E hr h => ?_)
  · obtain ⟨_, _, _, _, _, _, _, _, _, _, rfl, _⟩ := h
    rfl
  · obtain ⟨al, sd, wl, g, h, n, m, A, q, w, rfl, C, S, L, hsd, hw, kq⟩ := h
    have hm5 := C.m5
    have h0 : 0 < h := by
      have := C.h2
      omega
    refine ⟨_, pss_cons (ps_set (i := 3) scSums.nd rfl (.inl rfl) (pe_lst pa_nil))
      (pss_cons (ps_for PassesOwn.never rfl (pi_enum (by rfl) T.enumerate (pa_cons (pv 0) pa_nil)) (pg_tup (by rfl) (pgs_cons (pg_name (i := 4) scSums.nd rfl (.inl rfl)) (pgs_cons (pg_name (i := 5) scSums.nd rfl (.inl rfl)) pgs_nil)))
        (pss_cons (ps_set (i := 6) scSums.nd rfl (.inl rfl) (pe_ix ix_list (pe_lst (pa_cons (pe_def D1 hr (by rfl) (pa_cons (pe_tup (pa_cons pe_int (pa_cons pe_int pa_nil))) (pa_cons (pe_ix ix_list (pv 1) (pv 4) (fun _ _ => rfl)) pa_nil)))
            (pa_cons (pe_def D1 hr (by rfl) (pa_cons (pe_ix ix_tup (pv 5) pe_int (fun _ _ => rfl)) (pa_cons (pe_ix ix_list (pv 1) (pv 4) (fun _ _ => rfl)) pa_nil))) pa_nil)))
          (pe_callTy call_int1 (by rfl) T.int (by decide +kernel) (pa_cons (pe_cmpR op_eq (pe_ix ix_list (pv 2) (pv 4) (fun _ _ => rfl)) pe_str (nomark _)) pa_nil)) (fun _ _ => rfl)))
        (pss_cons (ps_if (pt_cmpR op_gt (pe_ix ix_tup (pv 5) pe_int (fun _ _ => rfl)) (pe_ix ix_tup (pv 5) pe_int (fun _ _ => rfl)) (nomark _))
          (pss_one (ps_set (i := 6) scSums.nd rfl (.inl rfl) (pe_def D1 hr (by rfl) (pa_cons (pe_tup (pa_cons pe_int (pa_cons pe_int pa_nil))) (pa_cons (pv 6) pa_nil))))) pss_nil)
        (pss_one (ps_expr (pe_bm PySem.F.plainAttrs_list PySem.F.slot_list_append PySem.F.type_list_append mt_append (pv 3) (pa_cons (pe_tup (pa_cons (pe_callB (call_min2 rfl) (by rfl) T.min (by decide +kernel) (pa_cons (pe_ix ix_tup (pv 5) pe_int (fun _ _ => rfl)) (pa_cons (pe_ix ix_tup (pv 5) pe_int (fun _ _ => rfl)) pa_nil))) (pa_cons (pv 6) pa_nil))) pa_nil)))))))
      (pss_one (ps_ret (pe_callB (cr_sortX (hu5 hr)) (by rfl) T.sorted (by decide +kernel) (pa_cons (pv 3) pa_nil))))), ?_⟩
    refine ⟨(by show 0 ≤ sizeLine; decide), fun D hD => ?_⟩
    have sD := same_new (o := .lst []) hD
    refine ⟨_, rfl, al, _, rfl, SqL.of (sD _ _ L.lst), for_it (walk_enumR (m := m) (g := g)) (fun i σ H' => Same H H' ∧ (∃ f : Nat → Addr, H' D = some (.lst (refs i f)) ∧ ∀ k, k < i → ∃ y : Addr, H' (f k) = some (.tup [.int ((A k).p : Int), .ref y]) ∧ FR K H' y (rowF A q w k)) ∧
        ∃ v4 v5 v6 : Option V, σ = [some (.ref al), some (.ref sd), some (.ref wl), some (.ref D), v4, v5, v6])
      ⟨sD, ⟨fun _ => 0, upd_same, fun k hk => absurd hk (Nat.not_lt_zero k)⟩, none, none, none, rfl⟩ ?_ ?_ ?_⟩
    · rintro i σ H' _ ⟨s1, _⟩
      exact SqL.of (s1 _ _ L.lst)
    · rintro i v σ H1 H2 hi ⟨s1, ⟨fr, hf1, hf2⟩, v4, v5, v6, rfl⟩ ⟨T1, rfl, hT1, rfl⟩
      have s2 := same_new (o := .tup [.int (i : Int), .ref (g i)]) hT1
      refine ⟨T1, _, rfl, SqT.of upd_same, rfl, _, _, rfl, _, _, rfl, rfl, ?_⟩
      obtain ⟨nm, sz, ha, hs⟩ := L.ask i hi
      have s12 := s1.trans s2
      generalize upd H1 T1 (.tup [.int (i : Int), .ref (g i)]) = H2 at s2 s12 ⊢
      -- the two gains
      refine ⟨(by show 2 ≤ sizeLine; decide), fun t0 ht0 => ?_⟩
      have s3 := same_new (o := .tup [.int 0, .int 1]) ht0
      refine r_part (k := i) (i := 1) (j := 4) rfl rfl ((hsd.same s12).same s3) hi fun x hx => ?_
      refine ⟨t0, x, 0, q i, rfl, tup_new, hx, bd0.mono (by decide), bd100 S hi, fun H4 g1 s4 hg1 => ?_⟩
      have s14 := s12.trans (s3.trans s4)
      refine ⟨_, rfl, g i, _, 3, .ref sz, rfl, rfl, SqT.of (s14 _ _ ha), rfl, ?_⟩
      refine r_part (k := i) (i := 1) (j := 4) rfl rfl (hsd.same s14) hi fun x2 hx2 => ?_
      refine ⟨sz, x2, _, q i, rfl, hs.same s14, hx2, bd50 C hi, bd100 S hi, fun H5 g2 s5 hg2 => ?_⟩
      refine ⟨(by show 2 ≤ sizeLine; decide), fun l hl => ?_⟩
      have s6 := same_new (o := .lst [.ref g1, .ref g2]) hl
      have s16 := s14.trans (s5.trans s6)
      refine ⟨_, rfl, _, rfl, wl, _, _, _, rfl, rfl, SqL.of (s16 _ _ hw), atI_nat (wayV_at hi), rfl, ?_⟩
      refine .inr ⟨_, rfl, ?_⟩
      rw [way_on]
      have hB : ∀ b : Bool, Bd 3900 (if b then (A i).s - q i else 0 - q i) := fun b => by
        cases b
        · exact (bd0.sub (S.bd i hi)).mono (by decide)
        · exact ((C.bd i hi).sub (S.bd i hi)).mono (by decide)
      obtain ⟨y, hy, hyq⟩ : ∃ y : Addr, atI [V.ref g1, .ref g2] (if w i = true then 1 else 0) = some (.ref y) ∧ FR K (upd H5 l (.lst [.ref g1, .ref g2])) y (if w i then (A i).s - q i else 0 - q i) := by
        cases w i
        · exact ⟨g1, rfl, (hg1.same s5).same s6⟩
        · exact ⟨g2, rfl, hg2.same s6⟩
      refine ⟨l, _, _, .ref y, rfl, rfl, lst_new, hy, ?_⟩
      have hf1' := (s2.trans (s3.trans (s4.trans (s5.trans s6)))) _ _ hf1
      have hf2' : ∀ k, k < i → ∃ y : Addr, (upd H5 l (.lst [.ref g1, .ref g2])) (fr k) = some (.tup [.int ((A k).p : Int), .ref y]) ∧ FR K (upd H5 l (.lst [.ref g1, .ref g2])) y (rowF A q w k) := fun k hk => by
        obtain ⟨y, e1, e2⟩ := hf2 k hk
        exact ⟨y, (s2.trans (s3.trans (s4.trans (s5.trans s6)))) _ _ e1, e2.same (s2.trans (s3.trans (s4.trans (s5.trans s6))))⟩
      generalize upd H5 l (.lst [.ref g1, .ref g2]) = H6 at s6 s16 hyq hf1' hf2' ⊢
      -- if ask[1] > ask[2]
      refine ⟨_, rfl, g i, _, 1, _, rfl, rfl, SqT.of (s16 _ _ ha), rfl, _, rfl, g i, _, 2, _, rfl, rfl, SqT.of (s16 _ _ ha), rfl, _, _, rfl, rfl, _, rfl, ?_⟩
      -- what follows: rows.append((min(..), gain))
      have fin : ∀ (H7 : Hp) (z : Addr), Same H H7 → H7 D = some (.lst (refs i fr)) → (∀ k, k < i → ∃ y : Addr, H7 (fr k) = some (.tup [.int ((A k).p : Int), .ref y]) ∧ FR K H7 y (rowF A q w k)) → FR K H7 z (rowF A q w i) →
          tDrop (tBM K "list" rAppend (tVar 3) (tCons (tTup (tCons (tCB (fun xs H Q => ∃ i j, xs = [V.int i, V.int j] ∧ Q (V.int (if j < i then j else i)) H) (tCons (tOp (rIxT K) (tVar 5) (tC (.int 1))) (tCons (tOp (rIxT K) (tVar 5) (tC (.int 2))) tNil))) (tCons (tVar 6) tNil))) tNil))
            { nx := fun σ H' => Same H H' ∧ (∃ f : Nat → Addr, H' D = some (.lst (refs (i + 1) f)) ∧ ∀ k, k < i + 1 → ∃ y : Addr, H' (f k) = some (.tup [.int ((A k).p : Int), .ref y]) ∧ FR K H' y (rowF A q w k)) ∧
                ∃ v4 v5 v6 : Option V, σ = [some (.ref al), some (.ref sd), some (.ref wl), some (.ref D), v4, v5, v6], rt := Q }
            [some (.ref al), some (.ref sd), some (.ref wl), some (.ref D), some (.int (i : Int)), some (.ref (g i)), some (.ref z)] H7 := by
        intro H7 z t1 t2 t3 t4
        refine ⟨_, rfl, .inl ⟨rfl, _, SqL.of t2⟩, _, rfl, g i, _, 1, _, rfl, rfl, SqT.of (t1 _ _ ha), rfl, _, rfl, g i, _, 2, _, rfl, rfl, SqT.of (t1 _ _ ha), rfl, _, _, rfl, ?_⟩
        rw [min_p]
        refine ⟨_, rfl, (by show 2 ≤ sizeLine; decide), fun u hu => ?_⟩
        have s8 := same_new (o := .tup [.int ((A i).p : Int), .ref z]) hu
        have hD8 := s8 _ _ t2
        refine ⟨D, _, _, rfl, rfl, hD8, ?_, same_mut (t1.trans s8) hD, ⟨put fr i u, ?_, fun k hk => ?_⟩, _, _, _, rfl⟩
        · rw [refs_len]
          exact small5 (by omega)
        · rw [upd_same, refs_put]
        · by_cases e : k = i
          · subst e
            rw [put_same]
            refine ⟨z, ?_, (t4.same s8).keep hD8⟩
            rw [upd_ne (ne_of (upd_same (a := u)) hD8 (fun e => HO.noConfusion e)), upd_same]
          · rw [put_ne _ _ _ e]
            obtain ⟨y, e1, e2⟩ := t3 k (by omega)
            refine ⟨y, ?_, (e2.same s8).keep hD8⟩
            rw [upd_ne (ne_of (s8 _ _ e1) hD8 (fun e => HO.noConfusion e))]
            exact s8 _ _ e1
      have er : rowF A q w i = if (A i).up then (if w i then (A i).s - q i else 0 - q i) else 0 - (if w i then (A i).s - q i else 0 - q i) := rfl
      rw [gt_up h0]
      cases eu : (A i).up
      · rw [eu] at er
        refine iteT ?_
        refine ⟨(by show 2 ≤ sizeLine; decide), fun t1 ht1 => ?_⟩
        have s7 := same_new (o := .tup [.int 0, .int 1]) ht1
        refine ⟨_, rfl, t1, y, 0, _, rfl, tup_new, hyq.same s7, bd0.mono (by decide), hB (w i), fun H8 z s8 hz => ?_⟩
        have s78 := s7.trans s8
        refine fin H8 z (s16.trans s78) (s78 _ _ hf1') (fun k hk => ?_) (by rw [er]; exact hz)
        obtain ⟨y, e1, e2⟩ := hf2' k hk
        exact ⟨y, s78 _ _ e1, e2.same s78⟩
      · rw [eu] at er
        refine iteF ?_
        exact fin H6 y s16 hf1' hf2' (by rw [er]; exact hyq)
    · rintro σ H1 ⟨s1, ⟨fr, hf1, hf2⟩, v4, v5, v6, rfl⟩
      refine ⟨_, rfl, D, List.range m, fr, fun k => ((A k).p : Int), fun k => .tuple [.int (rowF A q w k).num, .int ((rowF A q w k).den : Int)], rfl, SqL.of hf1, fun k hk => ?_, fun k j => ?_, fun k => ?_, fun k hk j hj e => ?_, fun S2 hS2 => ?_⟩
      · obtain ⟨y, e1, e2⟩ := hf2 k (List.mem_range.mp hk)
        exact ⟨.ref y, SqT.of e1, .tup e2 (.cons (.int _) (.cons (.int _) .nil))⟩
      · simp [PySem.W.alike, PySem.W.alikeAll]
      · simp [PyData.depth, PyData.depthAll]
      · exact C.inj k j (List.mem_range.mp hk) (List.mem_range.mp hj) (Int.ofNat.inj e)
      rw [ord_of]
      have s2 := same_new (o := .lst ((ord m A).map fun k => V.ref (fr k))) hS2
      refine kq _ S2 (s1.trans s2) ⟨fr, upd_same, fun k hk => ?_⟩
      obtain ⟨y, e1, e2⟩ := hf2 k hk
      exact ⟨y, s2 _ _ e1, e2.same s2⟩
/-! ### within half of the greatest -/
def spBounded (K : PySem.W.Frag) : Sp := fun vs H Q _ => ∃ (al rw_ : Addr) (g : Nat → Addr) (h n m : Nat) (A : Nat → Ask) (q : Nat → Rat) (w : Nat → Bool), vs = [.ref al, .ref rw_] ∧ Chain h n m A ∧ Sent m A q ∧ AsksAt K H h m al A g ∧ RowsAt K H m rw_ A q w ∧
  ∀ (H' : Hp) (b : Bool), Same H H' → (b = true ↔ Due m A q w) → Q (.bl b) H'
theorem scBounded : FnScope ["_law_asks", "_law_rows", "_law_most", "_law_name", "_law_one", "_law_other", "_law_size", "_law_total", "_law_place", "_law_gain"] ["_law_asks", "_law_rows"] (defScope (top 69)) := ⟨rfl, rfl, rfl, by decide +kernel, rfl, by decide +kernel, by decide +kernel⟩
theorem rows_of {m i : Nat} {A : Nat → Ask} {f : Nat → Addr} {v : V} (h : ((ord m A).map fun k => V.ref (f k))[i]? = some v) : ∃ k, (ord m A)[i]? = some k ∧ k < m ∧ v = V.ref (f k) := by
  rw [List.getElem?_map] at h
  cases e : (ord m A)[i]? with
  | none =>
    rw [e] at h
    cases h
  | some k =>
    rw [e] at h
    exact ⟨k, rfl, ord_mem (List.mem_of_getElem? e), (Option.some.inj h).symm⟩
theorem refs_of {m i : Nat} {g : Nat → Addr} {v : V} (h : (refs m g)[i]? = some v) : i < m ∧ v = V.ref (g i) := by
  obtain ⟨h1, _⟩ := List.getElem?_eq_some_iff.mp h
  rw [refs_len] at h1
  exact ⟨h1, (Option.some.inj ((refs_at h1).symm.trans h)).symm⟩
theorem half_abs {M t : Rat} (hM : 0 ≤ M) : (¬ M * hf < if t < 0 then -t else t) ↔ (t ≤ M * hf ∧ 0 - M * hf ≤ t) := by
  split <;> grind
theorem abs_bd {n : Nat} {t : Rat} (h : Bd n t) : Bd n (if t < 0 then -t else t) := by
  split
  · exact ⟨by rw [Rat.neg_num, Int.natAbs_neg]; exact h.1, by rw [Rat.neg_den]; exact h.2⟩
  · exact h
theorem d_bounded (T : Top K mg) : Ok P w K mg base 3 "_law_bounded" ["_law_asks", "_law_rows"] (spBounded K) := by
  have D1 : Ok P w K mg base 1 "_law_under" ["_law_one", "_law_other"] (spUnd K) := d_l_under T
  have D2 : Ok P w K mg base 2 "_law_plus" ["_law_one", "_law_other"] (spBin K fun q r => q + r) := d_l_plus T
  have D3 : Ok P w K mg base 1 "_law_low" ["_law_top", "_law_bottom"] (spLow K) := d_llow T
  refine mk_ok (k := 2) T.l_bounded scBounded (fun vs H Q E h => ?_) (fun _ _ _ _ _ _ us hl => match us, hl with | [_, _], _ => rfl) (fun f cdv A outer s H vs Q E hr h => ?_)
  · obtain ⟨_, _, _, _, _, _, _, _, _, rfl, _⟩ := h
    rfl
  · obtain ⟨al, rw_, g, h, n, m, A, q, w, rfl, C, S, L, R, kq⟩ := h
    have hm5 := C.m5
    refine ⟨_, pss_cons (ps_set (i := 2) scBounded.nd rfl (.inl rfl) (pe_tup (pa_cons pe_int (pa_cons pe_int pa_nil))))
      (pss_cons (ps_for PassesOwn.never rfl (pi_list (pv 0)) (pg_tup (by rfl) (pgs_cons (pg_name (i := 3) scBounded.nd rfl (.inl rfl)) (pgs_cons (pg_name (i := 4) scBounded.nd rfl (.inl rfl)) (pgs_cons (pg_name (i := 5) scBounded.nd rfl (.inl rfl)) (pgs_cons (pg_name (i := 6) scBounded.nd rfl (.inl rfl)) pgs_nil)))))
        (pss_one (ps_if (pt_val (pe_def D1 (hr.mono (by decide)) (by rfl) (pa_cons (pv 2) (pa_cons (pv 6) pa_nil)))) (pss_one (ps_set (i := 2) scBounded.nd rfl (.inl rfl) (pv 6))) pss_nil)))
      (pss_cons (ps_set (i := 7) scBounded.nd rfl (.inl rfl) (pe_tup (pa_cons pe_int (pa_cons pe_int pa_nil))))
      (pss_cons (ps_for PassesOwn.never rfl (pi_list (pv 1)) (pg_tup (by rfl) (pgs_cons (pg_name (i := 8) scBounded.nd rfl (.inl rfl)) (pgs_cons (pg_name (i := 9) scBounded.nd rfl (.inl rfl)) pgs_nil)))
        (pss_cons (ps_set (i := 7) scBounded.nd rfl (.inl rfl) (pe_def D2 hr (by rfl) (pa_cons (pv 7) (pa_cons (pv 9) pa_nil))))
        (pss_one (ps_if (pt_val (pe_def D1 (hr.mono (by decide)) (by rfl) (pa_cons (pe_def D3 (hr.mono (by decide)) (by rfl) (pa_cons (pe_ix ix_tup (pv 2) pe_int (fun _ _ => rfl)) (pa_cons (pe_op op_mul pe_int (pe_ix ix_tup (pv 2) pe_int (fun _ _ => rfl))) pa_nil)))
            (pa_cons (pe_def D3 (hr.mono (by decide)) (by rfl) (pa_cons (pe_callB call_abs (by rfl) T.abs (by decide +kernel) (pa_cons (pe_ix ix_tup (pv 7) pe_int (fun _ _ => rfl)) pa_nil)) (pa_cons (pe_ix ix_tup (pv 7) pe_int (fun _ _ => rfl)) pa_nil))) pa_nil))))
          (pss_one (ps_ret pe_bl)) pss_nil))))
      (pss_one (ps_ret pe_bl))))), ?_⟩
    refine ⟨(by show 2 ≤ sizeLine; decide), fun t0 ht0 => ?_⟩
    have s0 := same_new (o := .tup [.int 0, .int 1]) ht0
    have hz0 : FR K (upd H t0 (.tup [.int 0, .int 1])) t0 0 := tup_new
    generalize upd H t0 (.tup [.int 0, .int 1]) = H1 at s0 hz0 ⊢
    refine ⟨_, rfl, al, rfl, ⟨_, SqL.of (s0 _ _ L.lst)⟩, for_it (walk_list (K := K) (a := al) (xs := refs m g)) (fun i σ H' => H' = H1 ∧ ∃ (x : Addr) (v3 v4 v5 v6 : Option V), σ = [some (.ref al), some (.ref rw_), some (.ref x), v3, v4, v5, v6, none, none, none] ∧ FR K H1 x (most A i))
      ⟨rfl, t0, none, none, none, none, rfl, hz0⟩ ?_ ?_ ?_⟩
    · rintro i σ H' _ ⟨rfl, _⟩
      exact SqL.of (s0 _ _ L.lst)
    · rintro i v σ H2 H3 hi ⟨rfl, x, v3, v4, v5, v6, rfl, hx⟩ ⟨rfl, hv⟩
      obtain ⟨hi', rfl⟩ := refs_of hv
      obtain ⟨nm, sz, ha, hs⟩ := L.ask i hi'
      refine ⟨g i, _, rfl, SqT.of (s0 _ _ ha), rfl, _, _, rfl, _, _, rfl, _, _, rfl, _, _, rfl, rfl, ?_⟩
      refine ⟨_, rfl, _, rfl, x, sz, _, _, rfl, hx, hs.same s0, (most_bd fun k hk => C.bd k (by omega)).mono (by decide), bd50 C hi', _, rfl, ?_⟩
      have em : most A (i + 1) = if most A i < (A i).s then (A i).s else most A i := rfl
      by_cases c : most A i < (A i).s
      · rw [decide_eq_true c]
        rw [if_pos c] at em
        refine iteT ⟨_, rfl, rfl, sz, _, _, _, _, rfl, by rw [em]; exact hs.same s0⟩
      · rw [decide_eq_false c]
        rw [if_neg c] at em
        refine iteF ⟨rfl, x, _, _, _, _, rfl, by rw [em]; exact hx⟩
    rintro σ H2 ⟨rfl, ms, v3, v4, v5, v6, rfl, hms⟩
    rw [refs_len] at hms
    refine ⟨(by show 2 ≤ sizeLine; decide), fun t1 ht1 => ?_⟩
    have s1 := same_new (o := .tup [.int 0, .int 1]) ht1
    have hz1 : FR K (upd H2 t1 (.tup [.int 0, .int 1])) t1 0 := tup_new
    have hms1 := hms.same s1
    generalize upd H2 t1 (.tup [.int 0, .int 1]) = H3 at s1 hz1 hms1 ⊢
    have s01 := s0.trans s1
    obtain ⟨fr, hr1, hr2⟩ := id R
    refine ⟨_, rfl, rw_, rfl, ⟨_, SqL.of (s01 _ _ hr1)⟩, for_it (walk_list (K := K) (a := rw_) (xs := (ord m A).map fun k => V.ref (fr k))) (fun i σ H' => Same H3 H' ∧ (∀ j, j < i → okAt m A q w (j + 1)) ∧ ∃ (x : Addr) (v8 v9 : Option V), σ = [some (.ref al), some (.ref rw_), some (.ref ms), v3, v4, v5, v6, some (.ref x), v8, v9] ∧ FR K H' x (psum m A q w i))
      ⟨Same.refl H3, fun j hj => absurd hj (Nat.not_lt_zero j), t1, none, none, rfl, hz1⟩ ?_ ?_ ?_⟩
    · rintro i σ H' _ ⟨s2, _⟩
      exact SqL.of (s2 _ _ (s01 _ _ hr1))
    · rintro i v σ H4 H5 hi ⟨s2, hok, x, v8, v9, rfl, hx⟩ ⟨rfl, hv⟩
      obtain ⟨k, hk, hkm, rfl⟩ := rows_of hv
      have him : i < m := by
        rw [List.length_map, ord_len] at hi
        exact hi
      obtain ⟨y, hy1, hy2⟩ := hr2 k hkm
      have s02 := s01.trans s2
      refine ⟨fr k, _, rfl, SqT.of (s02 _ _ hy1), rfl, _, _, rfl, _, _, rfl, rfl, ?_⟩
      refine ⟨_, rfl, _, rfl, x, y, _, _, rfl, hx, hy2.same s02, (psum_bd C S i).mono (by decide), (row_bd (C.bd k hkm) (S.bd k hkm)).mono (by decide), fun H6 z s6 hz => ?_⟩
      have es : psum m A q w (i + 1) = psum m A q w i + rowF A q w k := psum_succ hk
      have hz : FR K H6 z (psum m A q w (i + 1)) := by
        rw [es]
        exact hz
      have hb2 : Bd 3900 (psum m A q w (i + 1)) := (psum_bd C S (i + 1)).mono (by decide)
      have hbm : Bd 3900 (most A m) := (most_bd C.bd).mono (by decide)
      have hms6 := (hms1.same s2).same s6
      refine r_num rfl hms6 ⟨_, rfl, ms, _, 1, _, rfl, rfl, hms6, rfl, _, _, rfl, rfl, .inl ⟨by decide, by decide⟩, ?_⟩
      refine ⟨(most A m).num, 2 * (most A m).den, congrArg (fun z => [V.int _, V.int z]) (by omega), Nat.mul_pos (by decide) (most A m).den_pos, ?_, fun H7 a1 s7 ha1 => ?_⟩
      · have h1 := (most_bd C.bd).2
        exact Nat.lt_of_lt_of_le (show 2 * (most A m).den < 2 ^ 51 by omega) (Nat.pow_le_pow_right (by decide) (by decide))
      rw [half_low] at ha1
      have hz7 := hz.same s7
      refine ⟨_, rfl, z, _, 0, _, rfl, rfl, hz7, rfl, _, rfl, _, rfl, z, _, 1, _, rfl, rfl, hz7, rfl, ?_⟩
      rw [abs_int]
      refine ⟨((psum m A q w (i + 1)).num.natAbs : Int), (psum m A q w (i + 1)).den, rfl, (psum m A q w (i + 1)).den_pos, Nat.lt_of_lt_of_le hb2.2 (Nat.pow_le_pow_right (by decide) (by decide)), fun H8 a2 s8 ha2 => ?_⟩
      rw [abs_low] at ha2
      refine ⟨a1, a2, _, _, rfl, ha1.same s8, ha2, halfm_bd C, abs_bd hb2, _, rfl, ?_⟩
      have hiff := half_abs (M := most A m) (t := psum m A q w (i + 1)) (most_nonneg A m)
      have s28 := s2.trans (s6.trans (s7.trans s8))
      by_cases c : most A m * hf < (if psum m A q w (i + 1) < 0 then -psum m A q w (i + 1) else psum m A q w (i + 1))
      · rw [decide_eq_true c]
        refine iteT ?_
        exact kq _ false (s01.trans s28) ⟨fun z => Bool.noConfusion z, fun d => absurd c (hiff.mpr (d i him))⟩
      · rw [decide_eq_false c]
        refine iteF ?_
        refine ⟨s28, fun j hj => ?_, z, _, _, rfl, hz7.same s8⟩
        by_cases e : j = i
        · rw [e]
          exact hiff.mp c
        · exact hok j (by omega)
    · rintro σ H4 ⟨s2, hok, _⟩
      rw [List.length_map, ord_len] at hok
      exact kq H4 true (s01.trans s2) ⟨fun _ => hok, fun _ => rfl⟩
end
end K40
namespace K40
open PySem PyProof.Rows L2
/-! ### data that are compared -/
def frD (q : Rat) : PyData := .tuple [.int q.num, .int (q.den : Int)]
theorem frD_eqv (q : Rat) : PyData.eqv (frD q) (frD q) = true := by simp [frD, PyData.eqv, PyData.eqvAll]
theorem frD_shaped (q : Rat) : SeqAt.shaped (frD q) = true := by
  have h : (frD q).depth ≤ 64 := by simp [frD, PyData.depth, PyData.depthAll]
  have h2 : (frD q).canLay0 = true := by simp [frD, PyData.canLay0, PyData.canLayAll0]
  show ((frD q).canLay0 && decide ((frD q).depth ≤ 64)) = true
  rw [h2, decide_eq_true h]
  rfl
theorem FR.dp {K : PySem.W.Frag} {H : Hp} {a : Addr} {q : Rat} (h : FR K H a q) : Dp K H (.ref a) (frD q) := .tup h (.cons (.int _) (.cons (.int _) .nil))
theorem ifrow_bd {A : Nat → Ask} {q : Nat → Rat} {w : Nat → Bool} {k : Nat} {c : Prop} [Decidable c] (h1 : Bd 50 (A k).s) (h2 : Bd 100 (q k)) : Bd 160 (if c then rowF A q w k else 0) := by
  split
  · exact row_bd h1 h2
  · exact bd0.mono (by decide)
theorem five {m : Nat} {A : Nat → Ask} (h : m ≤ 5) (i : Nat) : ((ord m A).take i).length ≤ 5 := by
  rw [List.length_take, ord_len]
  omega
theorem firstTo_bd {h n m : Nat} {A : Nat → Ask} {q : Nat → Rat} {w : Nat → Bool} (C : Chain h n m A) (S : Sent m A q) (t : Nat) : Bd 1000 (firstTo A q w (ord m A) t) := by
  unfold firstTo
  refine (sumL_bd (B := 160) fun k hk => ifrow_bd (C.bd k (ord_mem hk)) (S.bd k (ord_mem hk))).mono ?_
  rw [ord_len]
  have := C.m5
  omega
theorem atP_bd {h n m : Nat} {A : Nat → Ask} {q : Nat → Rat} {w : Nat → Bool} (C : Chain h n m A) (S : Sent m A q) (t i : Nat) : Bd 1000 (atP A q w ((ord m A).take i) t) := by
  unfold atP
  refine (sumL_bd (B := 160) fun k hk => ifrow_bd (C.bd k (ord_mem (List.mem_of_mem_take hk))) (S.bd k (ord_mem (List.mem_of_mem_take hk)))).mono ?_
  have := five (A := A) C.m5 i
  omega
section
variable {P : Program} {w : World} {K : PySem.W.Frag} {mg : Str → Option Value} {base : Heap}
def spGR (K : PySem.W.Frag) : Sp := fun vs H Q _ => ∃ (rw_ gl : Addr) (h n m : Nat) (A : Nat → Ask) (q : Nat → Rat) (w : Nat → Bool), vs = [.ref rw_, .int (h : Int), .ref gl] ∧ Chain h n m A ∧ Sent m A q ∧ RowsAt K H m rw_ A q w ∧
  SendAt K H n gl (fun t => load A h n t (whole A w) m - load A h n t q m) ∧ ∀ H', Same H H' → Q (.bl true) H'
theorem scGR : FnScope ["_law_rows", "_law_half", "_law_gains", "_law_whole", "_law_place", "_law_gain", "_law_first", "_law_there", "_law_due"] ["_law_rows", "_law_half", "_law_gains"] (defScope (top 70)) := ⟨rfl, rfl, rfl, by decide +kernel, rfl, by decide +kernel, by decide +kernel⟩
theorem d_gr (T : Top K mg) : Ok P w K mg base 3 "_law_gains_right" ["_law_rows", "_law_half", "_law_gains"] (spGR K) := by
  have D1 : Ok P w K mg base 2 "_law_plus" ["_law_one", "_law_other"] (spBin K fun q r => q + r) := d_l_plus T
  have D2 : Ok P w K mg base 2 "_law_minus" ["_law_one", "_law_other"] (spBin K fun q r => q - r) := d_l_minus T
  refine mk_ok (k := 2) T.l_gains scGR (fun vs H Q E h => ?_) (fun _ _ _ _ _ _ us hl => match us, hl with | [_, _, _], _ => rfl) (fun f cdv A outer s H vs Q E hr h => ?_)
  · obtain ⟨_, _, _, _, _, _, _, _, rfl, _⟩ := h
    rfl
  · obtain ⟨rw_, gl, h, n, m, A, q, w, rfl, C, S, R, G, kq⟩ := h
    have hm5 := C.m5
    have hh5 := C.h5
    refine ⟨_, pss_cons (ps_set (i := 3) scGR.nd rfl (.inl rfl) (pe_tup (pa_cons pe_int (pa_cons pe_int pa_nil))))
      (pss_cons (ps_for PassesOwn.never rfl (pi_list (pv 0)) (pg_tup (by rfl) (pgs_cons (pg_name (i := 4) scGR.nd rfl (.inl rfl)) (pgs_cons (pg_name (i := 5) scGR.nd rfl (.inl rfl)) pgs_nil)))
        (pss_one (ps_set (i := 3) scGR.nd rfl (.inl rfl) (pe_def D1 hr (by rfl) (pa_cons (pv 3) (pa_cons (pv 5) pa_nil))))))
      (pss_cons (ps_set (i := 6) scGR.nd rfl (.inl rfl) (pe_tup (pa_cons pe_int (pa_cons pe_int pa_nil))))
      (pss_cons (ps_for PassesOwn.never rfl (pi_range1 (by rfl) T.range (pa_cons (pv 1) pa_nil)) (pg_name (i := 4) scGR.nd rfl (.inl rfl))
        (pss_cons (ps_for PassesOwn.never rfl (pi_list (pv 0)) (pg_tup (by rfl) (pgs_cons (pg_name (i := 7) scGR.nd rfl (.inl rfl)) (pgs_cons (pg_name (i := 5) scGR.nd rfl (.inl rfl)) pgs_nil)))
          (pss_one (ps_if (pt_cmpR op_eq (pv 7) (pv 4) (nomark _)) (pss_one (ps_set (i := 6) scGR.nd rfl (.inl rfl) (pe_def D1 hr (by rfl) (pa_cons (pv 6) (pa_cons (pv 5) pa_nil))))) pss_nil)))
        (pss_cons (ps_set (i := 8) scGR.nd rfl (.inl rfl) (pe_def D2 hr (by rfl) (pa_cons (pe_def D1 hr (by rfl) (pa_cons (pv 6) (pa_cons (pv 6) pa_nil))) (pa_cons (pv 3) pa_nil))))
        (pss_one (ps_if (PW.pt (pw_or (pt_cmpR (op_neD hr.units) (pe_ix ix_list (pv 2) (pv 4) (fun _ _ => rfl)) (pv 8) (nomark _))
          (pw_or1 (pt_cmpR (op_neD hr.units) (pe_ix ix_list (pv 2) (pe_op op_add (pv 4) (pv 1)) (fun _ _ => rfl)) (pe_def D2 hr (by rfl) (pa_cons (pe_tup (pa_cons pe_int (pa_cons pe_int pa_nil))) (pa_cons (pv 8) pa_nil))) (nomark _)))))
          (pss_one (ps_ret pe_bl)) pss_nil)))))
      (pss_one (ps_ret pe_bl))))), ?_⟩
    refine ⟨(by show 2 ≤ sizeLine; decide), fun t0 ht0 => ?_⟩
    have s0 := same_new (o := .tup [.int 0, .int 1]) ht0
    have hz0 : FR K (upd H t0 (.tup [.int 0, .int 1])) t0 0 := tup_new
    generalize upd H t0 (.tup [.int 0, .int 1]) = H1 at s0 hz0 ⊢
    obtain ⟨fr, hr1, hr2⟩ := id R
    obtain ⟨fg, hg1, hg2⟩ := id G
    have hg2 : ∀ t, t < n → FR K H (fg t) (load A h n t (whole A w) m - load A h n t q m) := hg2
    -- the whole sum
    refine ⟨_, rfl, rw_, rfl, ⟨_, SqL.of (s0 _ _ hr1)⟩, for_it (walk_list (K := K) (a := rw_) (xs := (ord m A).map fun k => V.ref (fr k))) (fun i σ H' => Same H1 H' ∧ ∃ (x : Addr) (v4 v5 : Option V), σ = [some (.ref rw_), some (.int (h : Int)), some (.ref gl), some (.ref x), v4, v5, none, none, none] ∧ FR K H' x (psum m A q w i))
      ⟨Same.refl H1, t0, none, none, rfl, hz0⟩ ?_ ?_ ?_⟩
    · rintro i σ H' _ ⟨s2, _⟩
      exact SqL.of (s2 _ _ (s0 _ _ hr1))
    · rintro i v σ H4 H5 hi ⟨s2, x, v4, v5, rfl, hx⟩ ⟨rfl, hv⟩
      obtain ⟨k, hk, hkm, rfl⟩ := rows_of hv
      obtain ⟨y, hy1, hy2⟩ := hr2 k hkm
      have s02 := s0.trans s2
      refine ⟨fr k, _, rfl, SqT.of (s02 _ _ hy1), rfl, _, _, rfl, _, _, rfl, rfl, ?_⟩
      refine ⟨_, rfl, _, rfl, x, y, _, _, rfl, hx, hy2.same s02, (psum_bd C S i).mono (by decide), (row_bd (C.bd k hkm) (S.bd k hkm)).mono (by decide), fun H6 z s6 hz => ?_⟩
      exact ⟨s2.trans s6, z, _, _, rfl, by rw [psum_succ hk]; exact hz⟩
    rintro σ H2 ⟨s2, wx, v4, v5, rfl, hwx⟩
    rw [List.length_map, ord_len] at hwx
    have ew : psum m A q w m = sumL (ord m A) (rowF A q w) := by
      unfold psum
      rw [List.take_of_length_le (by rw [ord_len]; exact Nat.le_refl m)]
    have hbw : Bd 1000 (psum m A q w m) := psum_bd C S m
    refine ⟨(by show 2 ≤ sizeLine; decide), fun t1 ht1 => ?_⟩
    have s3 := same_new (o := .tup [.int 0, .int 1]) ht1
    have hz1 : FR K (upd H2 t1 (.tup [.int 0, .int 1])) t1 0 := tup_new
    have hwx3 := hwx.same s3
    have s03 := s0.trans (s2.trans s3)
    generalize upd H2 t1 (.tup [.int 0, .int 1]) = H3 at s3 hz1 hwx3 s03 ⊢
    refine ⟨_, rfl, (h : Int), rfl, by omega, by omega, ?_⟩
    rw [Int.toNat_natCast]
    -- for place in range(half)
    refine for_it walk_range0 (fun t σ H' => Same H3 H' ∧ ∃ (x : Addr) (v4 v5 v7 v8 : Option V), σ = [some (.ref rw_), some (.int (h : Int)), some (.ref gl), some (.ref wx), v4, v5, some (.ref x), v7, v8] ∧ FR K H' x (firstTo A q w (ord m A) t))
      ⟨Same.refl H3, t1, _, _, none, none, rfl, by rw [firstTo_zero]; exact hz1⟩ (fun _ _ _ _ _ => trivial) ?_ ?_
    · rintro t v σ H4 H5 ht ⟨s4, x, v4, v5, v7, v8, rfl, hx⟩ ⟨rfl, rfl⟩
      have s04 := s03.trans s4
      -- for there, gain in rows
      refine ⟨_, rfl, rw_, rfl, ⟨_, SqL.of (s04 _ _ hr1)⟩, for_it (walk_list (K := K) (a := rw_) (xs := (ord m A).map fun k => V.ref (fr k))) (fun i σ H' => Same H5 H' ∧ ∃ (x : Addr) (v5 v7 : Option V), σ = [some (.ref rw_), some (.int (h : Int)), some (.ref gl), some (.ref wx), some (.int (t : Int)), v5, some (.ref x), v7, v8] ∧
          FR K H' x (firstTo A q w (ord m A) t + atP A q w ((ord m A).take i) t))
        ⟨Same.refl H5, x, _, _, rfl, ?_⟩ ?_ ?_ ?_⟩
      · rw [show atP A q w ((ord m A).take 0) t = 0 from rfl, Rat.add_zero]
        exact hx
      · rintro i σ H' _ ⟨s5, _⟩
        exact SqL.of (s5 _ _ (s04 _ _ hr1))
      · rintro i v σ H6 H7 hi ⟨s5, x2, v52, v72, rfl, hx2⟩ ⟨rfl, hv⟩
        obtain ⟨k, hk, hkm, rfl⟩ := rows_of hv
        obtain ⟨y, hy1, hy2⟩ := hr2 k hkm
        have s05 := s04.trans s5
        refine ⟨fr k, _, rfl, SqT.of (s05 _ _ hy1), rfl, _, _, rfl, _, _, rfl, rfl, ?_⟩
        have ea : atP A q w ((ord m A).take (i + 1)) t = atP A q w ((ord m A).take i) t + if (A k).p = t then rowF A q w k else 0 := by rw [take_snoc hk, atP_snoc]
        refine ⟨_, rfl, _, rfl, rfl, _, rfl, ?_⟩
        by_cases c : (A k).p = t
        · rw [decide_eq_true (show V.int ((A k).p : Int) = V.int (t : Int) by rw [c])]
          rw [if_pos c] at ea
          refine iteT ⟨_, rfl, _, rfl, x2, y, _, _, rfl, hx2, hy2.same s05, ((firstTo_bd C S t).add (atP_bd C S t i)).mono (by decide), (row_bd (C.bd k hkm) (S.bd k hkm)).mono (by decide), fun H8 z s8 hz => ?_⟩
          exact ⟨s5.trans s8, z, _, _, rfl, by rw [ea, ← Rat.add_assoc]; exact hz⟩
        · rw [decide_eq_false (show ¬ V.int ((A k).p : Int) = V.int (t : Int) from fun e => c (Int.ofNat.inj (V.int.inj e)))]
          rw [if_neg c, Rat.add_zero] at ea
          refine iteF ⟨s5, x2, _, _, rfl, by rw [ea]; exact hx2⟩
      rintro σ H6 ⟨s5, x2, v52, v72, rfl, hx2⟩
      rw [List.length_map, List.take_length, ← first_split, ← firstTo_succ] at hx2
      have s35 := s4.trans s5
      have s05 := s04.trans s5
      have hb := firstTo_bd (w := w) C S (t + 1)
      -- due = minus(plus(first, first), whole)
      refine ⟨_, rfl, _, rfl, x2, x2, _, _, rfl, hx2, hx2, hb.mono (by decide), hb.mono (by decide), fun H7 y1 s7 hy1 => ?_⟩
      refine ⟨_, rfl, y1, wx, _, _, rfl, hy1, (hwx3.same s35).same s7, (hb.add hb).mono (by decide), hbw.mono (by decide), fun H8 du s8 hdu => ?_⟩
      have hdu : FR K H8 du ((firstTo A q w (ord m A) (t + 1) + firstTo A q w (ord m A) (t + 1)) - psum m A q w m) := hdu
      rw [firstTo_succ, ew, ← gains_lo C (ord_perm m A) ht] at hdu
      have hbd : Bd 3900 (load A h n t (whole A w) m - load A h n t q m) := ((load_bd (t := t) (h := h) (n := n) hm5 C.bd (fun k hk => whole_bd C hk)).sub (load_bd hm5 C.bd S.bd)).mono (by decide)
      have hn : t < n ∧ t + h < n := by
        have := C.n2
        omega
      have s08 := s05.trans (s7.trans s8)
      -- gains[place] != due
      refine ⟨_, rfl, _, rfl, gl, _, _, _, rfl, rfl, SqL.of (s08 _ _ hg1), atI_nat (refs_at hn.1), _, rfl, ?_⟩
      refine ⟨frD (load A h n t (whole A w) m - load A h n t q m), frD (load A h n t (whole A w) m - load A h n t q m), ((hg2 t hn.1).same s08).dp, hdu.dp, frD_shaped _, frD_shaped _, _, rfl, ?_⟩
      rw [frD_eqv]
      refine iteF ?_
      -- gains[place + half] != minus((0, 1), due)
      refine ⟨_, rfl, _, rfl, _, rfl, _, _, rfl, rfl, gl, _, ((t + h : Nat) : Int), _, rfl, congrArg V.int (by show (t : Int) + (h : Int) = ((t + h : Nat) : Int); omega), SqL.of (s08 _ _ hg1), atI_nat (refs_at hn.2), ?_⟩
      refine ⟨(by show 2 ≤ sizeLine; decide), fun t2 ht2 => ?_⟩
      have s9 := same_new (o := .tup [.int 0, .int 1]) ht2
      refine ⟨_, rfl, t2, du, 0, _, rfl, tup_new, hdu.same s9, bd0.mono (by decide), hbd, fun H10 nd s10 hnd => ?_⟩
      have hnd : FR K H10 nd (0 - (load A h n t (whole A w) m - load A h n t q m)) := hnd
      rw [gains_lo C (ord_perm m A) ht, ← gains_hi C (ord_perm m A) ht] at hnd
      have s010 := s08.trans (s9.trans s10)
      refine ⟨frD (load A h n (t + h) (whole A w) m - load A h n (t + h) q m), frD (load A h n (t + h) (whole A w) m - load A h n (t + h) q m), ((hg2 (t + h) hn.2).same s010).dp, hnd.dp, frD_shaped _, frD_shaped _, _, rfl, ?_⟩
      rw [frD_eqv]
      refine iteF ?_
      have hx8 := hx2.same (s7.trans (s8.trans (s9.trans s10)))
      exact ⟨s35.trans (s7.trans (s8.trans (s9.trans s10))), x2, _, _, _, _, rfl, hx8⟩
    · rintro σ H4 ⟨s4, _⟩
      exact kq H4 (s03.trans s4)
end
end K40
namespace K40
open PySem PyProof.Rows L2
/-! ### lists of ways -/
def wb (v : List Bool) : List V := v.map fun b => V.str (way b)
theorem wb_snoc (v : List Bool) (b : Bool) : wb v ++ [V.str (way b)] = wb (v ++ [b]) := by
  unfold wb
  rw [List.map_append]
  rfl
theorem wb_way {v : List Bool} {m : Nat} (h : v.length = m) : wb v = wayV m (fnW v) := by
  have e : wb (ext (fnW v) m) = wayV m (fnW v) := by
    unfold wb ext wayV
    rw [List.map_map]
    rfl
  rw [ext_fn h] at e
  exact e
abbrev Wy : Type := Addr × List Bool
def wyR (ps : List Wy) : List V := ps.map fun z => V.ref z.1
theorem wyR_at {ps : List Wy} {i : Nat} {v : V} (h : (wyR ps)[i]? = some v) : ∃ z, ps[i]? = some z ∧ v = V.ref z.1 := by
  unfold wyR at h
  rw [List.getElem?_map] at h
  cases e : ps[i]? with
  | none =>
    rw [e] at h
    cases h
  | some z =>
    rw [e] at h
    exact ⟨z, rfl, (Option.some.inj h).symm⟩
/-- lists of ways stand, each new against H0 -/
structure WyAt (H0 H : Hp) (p : Addr) (ps : List Wy) : Prop where
  lst : H p = some (.lst (wyR ps))
  each : ∀ z ∈ ps, H z.1 = some (.lst (wb z.2)) ∧ H0 z.1 = none
section
variable {P : Program} {w : World} {K : PySem.W.Frag} {mg : Str → Option Value} {base : Heap}
def spAllW : Sp := fun vs H Q _ => ∃ m : Nat, vs = [.int (m : Int)] ∧ m ≤ 5 ∧ ∀ (H' : Hp) (p : Addr) (ps : List Wy), Same H H' → WyAt H H' p ps → ps.map (·.2) = allW m → Q (.ref p) H'
theorem scAllW : FnScope ["_law_many", "_law_found", "_law_k", "_law_ways"] ["_law_many"] (defScope (top 71)) := ⟨rfl, rfl, rfl, by decide +kernel, rfl, by decide +kernel, by decide +kernel⟩
/-- one comprehension: each with one more -/
theorem more_ways {K : PySem.W.Frag} {H0 H : Hp} {F D : Addr} {ps : List Wy} {b : Bool} {g : TG} {σ : L2.St} {vs : List Nat} {Q : Hp → Prop} (hF : WyAt H0 H F ps) (s0 : Same H0 H) (hD : H D = none) (hl : ps.length ≤ 100)
    {te : TE} (hg : ∀ (z : V) (H' : Hp) (R : L2.St → Hp → Prop), R ((wipe σ vs).set 3 (some z)) H' → g z (wipe σ vs) H' R) (hw : ∀ z, wipe ((wipe σ vs).set 3 (some z)) vs = wipe σ vs)
    (he : ∀ (a : Addr) (v : List Bool) (H' : Hp) (R : VK), H' a = some (.lst (wb v)) → v.length ≤ 100 → (∀ H2 p, Same H' H2 → H' p = none → H2 p = some (.lst (wb (v ++ [b]))) → R (.ref p) H2) → te ((wipe σ vs).set 3 (some (.ref a))) H' R)
    (hv : ∀ z ∈ ps, z.2.length ≤ 100)
    (hd : ∀ (H' : Hp) (qs : List Wy), Same H H' → H' D = some (.lst (wyR qs)) → (∀ z ∈ qs, H' z.1 = some (.lst (wb z.2)) ∧ H0 z.1 = none ∧ z.1 ≠ D) → qs.map (·.2) = (ps.map (·.2)).map (· ++ [b]) → Q H') :
    ∃ W : Nat → Nat → Hp → Prop, (∃ m, W 0 m (upd H D (.lst []))) ∧ ∀ i m H, W i m H →
      ((Itl K F).stop i H ∧ Q H) ∨ ((Itl K F).go i H ∧ ∃ Nx : Hp → Prop, (∀ H', Nx H' → ∃ m', m' < m ∧ W (i + 1) m' H') ∧ ∀ x H', (Itl K F).yld i H x H' → g x (wipe σ vs) H' fun σ2 H2 => wipe σ2 vs = wipe σ vs ∧ tYes σ2 H2 fun b H3 =>
        if b = true then te σ2 H3 fun y H4 => ∃ acc, H4 D = some (.lst acc) ∧ acc.length < sizeLine ∧ Nx (upd H4 D (.lst (acc ++ [y]))) else Nx H3) := by
  have hlen : (wyR ps).length = ps.length := List.length_map _
  refine lc_it (walk_list (K := K) (a := F) (xs := wyR ps)) (fun i H' => Same H H' ∧ ∃ qs : List Wy, H' D = some (.lst (wyR qs)) ∧ (∀ z ∈ qs, H' z.1 = some (.lst (wb z.2)) ∧ H0 z.1 = none ∧ z.1 ≠ D) ∧ qs.map (·.2) = ((ps.take i).map (·.2)).map (· ++ [b]) ∧ qs.length = i)
    ⟨same_new hD, [], upd_same, fun z hz => absurd hz (List.not_mem_nil), rfl, rfl⟩ ?_ ?_ ?_
  · rintro i H' _ ⟨s1, _⟩
    exact SqL.of (s1 _ _ hF.lst)
  · rintro i v H1 H2 hi ⟨s1, qs, h1, h2, h3, h4⟩ ⟨rfl, hx⟩
    rw [hlen] at hi
    obtain ⟨z, hz, rfl⟩ := wyR_at hx
    have hzm := List.mem_of_getElem? hz
    refine hg _ _ _ ⟨hw _, ?_⟩
    refine he z.1 z.2 _ _ (s1 _ _ (hF.each z hzm).1) (hv z hzm) fun H3 p s3 hp h5 => ?_
    have hD3 := s3 _ _ h1
    have hpD : p ≠ D := fun e => by
      rw [e, h1] at hp
      cases hp
    refine ⟨wyR qs, hD3, ?_, same_mut (s1.trans s3) hD, qs ++ [(p, z.2 ++ [b])], ?_, fun y hy => ?_, ?_, ?_⟩
    · unfold wyR
      rw [List.length_map, h4]
      exact Nat.lt_of_lt_of_le (show i < 101 by omega) (by decide)
    · rw [upd_same]
      unfold wyR
      rw [List.map_append]
      rfl
    · rcases List.mem_append.mp hy with hy | hy
      · obtain ⟨e1, e2, e3⟩ := h2 y hy
        exact ⟨by rw [upd_ne e3]; exact s3 _ _ e1, e2, e3⟩
      · rw [List.mem_singleton] at hy
        subst hy
        exact ⟨by rw [upd_ne hpD]; exact h5, s0.free (s1.free hp), hpD⟩
    · rw [List.map_append, h3, List.take_add_one, hz]
      simp
    · rw [List.length_append, h4]
      rfl
  · rintro H1 ⟨s1, qs, h1, h2, h3, h4⟩
    rw [hlen, List.take_length] at h3
    exact hd H1 qs s1 h1 h2 h3
theorem allW_small {m : Nat} (hm : m ≤ 5) {ps : List Wy} (h : ps.map (·.2) = allW m) : ps.length ≤ 32 ∧ ∀ z ∈ ps, z.2.length = m := by
  constructor
  · have e := congrArg List.length h
    rw [List.length_map, allW_count] at e
    rw [e]
    exact Nat.pow_le_pow_right (by decide) hm
  · intro z hz
    exact allW_len (h ▸ List.mem_map.mpr ⟨z, hz, rfl⟩)
theorem d_allW (T : Top K mg) : Ok P w K mg base 1 "_law_all_ways" ["_law_many"] spAllW := by
  refine mk_ok (k := 0) T.l_all scAllW (fun vs H Q E h => ?_) (fun _ _ _ _ _ _ us hl => match us, hl with | [_], _ => rfl) (fun f cdv A outer s H vs Q E hr h => ?_)
  · obtain ⟨_, rfl, _⟩ := h
    rfl
  · obtain ⟨m, rfl, hm5, kq⟩ := h
    refine ⟨_, pss_cons (ps_set (i := 1) scAllW.nd rfl (.inl rfl) (pe_lst (pa_cons (pe_lst pa_nil) pa_nil)))
      (pss_cons (ps_for PassesOwn.never rfl (pi_range1 (by rfl) T.range (pa_cons (pv 0) pa_nil)) (pg_name (i := 2) scAllW.nd rfl (.inl rfl))
        (pss_one (ps_set (i := 1) scAllW.nd rfl (.inl rfl) (pe_op op_cat
          (pe_lc (own := [("_law_ways", 3)]) (g := gName 3) rfl scAllW.nd (pi_list (pv 1)) (blkOk_by (N := ["_law_many", "_law_found", "_law_k", "_law_ways"]) (sc := defScope (top 71)) (by decide +kernel))
            (fun _ _ _ _ _ => pg_name (i := 3) scAllW.nd rfl (Or.inl rfl)) (fun _ _ _ _ _ => pts_nil) (fun _ _ _ _ _ => pe_op op_cat (pv 3) (pe_lst (pa_cons pe_str pa_nil))))
          (pe_lc (own := [("_law_ways", 3)]) (g := gName 3) rfl scAllW.nd (pi_list (pv 1)) (blkOk_by (N := ["_law_many", "_law_found", "_law_k", "_law_ways"]) (sc := defScope (top 71)) (by decide +kernel))
            (fun _ _ _ _ _ => pg_name (i := 3) scAllW.nd rfl (Or.inl rfl)) (fun _ _ _ _ _ => pts_nil) (fun _ _ _ _ _ => pe_op op_cat (pv 3) (pe_lst (pa_cons pe_str pa_nil))))))))
      (pss_one (ps_ret (pv 1)))), ?_⟩
    refine ⟨(by show 0 ≤ sizeLine; decide), fun e he => ?_⟩
    have s1 := same_new (o := .lst []) he
    refine ⟨(by show 1 ≤ sizeLine; decide), fun F0 hF0 => ?_⟩
    have s2 := same_new (o := .lst [V.ref e]) hF0
    refine ⟨_, rfl, (m : Int), rfl, by omega, by omega, ?_⟩
    rw [Int.toNat_natCast]
    refine for_it walk_range0 (fun k σ H' => Same H H' ∧ ∃ (F : Addr) (ps : List Wy) (v2 : Option V), σ = [some (.int (m : Int)), some (.ref F), v2, none] ∧ WyAt H H' F ps ∧ ps.map (·.2) = allW k)
      ⟨s1.trans s2, F0, [(e, [])], none, rfl, ⟨upd_same, fun z hz => ?_⟩, rfl⟩ (fun _ _ _ _ _ => trivial) ?_ ?_
    · rw [List.mem_singleton] at hz
      subst hz
      exact ⟨s2 _ _ upd_same, he⟩
    · rintro k v σ H1 H2 hk ⟨s3, F, ps, v2, rfl, hF, hps⟩ ⟨rfl, rfl⟩
      obtain ⟨hl, hv⟩ := allW_small (show k ≤ 5 by omega) hps
      -- [ways + ["on"] for ways in found]
      refine ⟨_, rfl, F, rfl, ⟨_, SqL.of hF.lst⟩, fun D1 hD1 => ?_⟩
      have elem : ∀ (b : Bool) (a : Addr) (v : List Bool) (H' : Hp) (R : VK), H' a = some (.lst (wb v)) → v.length ≤ 100 → (∀ H2 p, Same H' H2 → H' p = none → H2 p = some (.lst (wb (v ++ [b]))) → R (.ref p) H2) →
          tOp rCat (tVar 3) (tLst (tCons (tC (.str (way b))) tNil)) [some (.int (m : Int)), some (.ref F), some (.int (k : Int)), some (.ref a)] H' R := by
        intro b a v H' R ha hvl kr
        refine ⟨_, rfl, (by show 1 ≤ sizeLine; decide), fun l hl => ?_⟩
        have sl := same_new (o := .lst [V.str (way b)]) hl
        refine ⟨a, l, wb v, [V.str (way b)], rfl, rfl, sl _ _ ha, upd_same, ?_, fun p hp => ?_⟩
        · have e : (wb v).length = v.length := List.length_map _
          rw [e]
          exact Nat.le_trans (show v.length + 1 ≤ 101 by omega) (by decide)
        · rw [wb_snoc]
          exact kr _ p (sl.trans (same_new hp)) (sl.free hp) upd_same
      refine more_ways (b := true) (ps := ps) hF s3 hD1 (by omega) (fun z H' R r => r) (fun z => rfl) (fun a v H' R h1 h2 h3 => elem true a v H' R h1 h2 h3) (fun z hz => by have := hv z hz; omega) fun H3 qs s4 h31 h32 h33 => ?_
      -- [ways + ["back"] for ways in found]
      have hF3 : WyAt H H3 F ps := ⟨s4 _ _ hF.lst, fun z hz => ⟨s4 _ _ (hF.each z hz).1, (hF.each z hz).2⟩⟩
      refine ⟨_, rfl, F, rfl, ⟨_, SqL.of hF3.lst⟩, fun D2 hD2 => ?_⟩
      refine more_ways (b := false) (ps := ps) hF3 (s3.trans s4) hD2 (by omega) (fun z H' R r => r) (fun z => rfl) (fun a v H' R h1 h2 h3 => elem false a v H' R h1 h2 h3) (fun z hz => by have := hv z hz; omega) fun H4 rs s5 h41 h42 h43 => ?_
      have hql : qs.length = ps.length := by
        have e := congrArg List.length h33
        simpa using e
      have hrl : rs.length = ps.length := by
        have e := congrArg List.length h43
        simpa using e
      refine ⟨D1, D2, wyR qs, wyR rs, rfl, rfl, s5 _ _ h31, h41, ?_, fun F2 hF2 => ?_⟩
      · unfold wyR
        rw [List.length_map, List.length_map]
        exact Nat.le_trans (show qs.length + rs.length ≤ 64 by omega) (by decide)
      have s6 := same_new (o := .lst (wyR qs ++ wyR rs)) hF2
      refine ⟨s3.trans (s4.trans (s5.trans s6)), F2, qs ++ rs, _, rfl, ⟨?_, fun z hz => ?_⟩, ?_⟩
      · rw [upd_same]
        unfold wyR
        rw [List.map_append]
      · rcases List.mem_append.mp hz with hz | hz
        · obtain ⟨e1, e2, _⟩ := h32 z hz
          exact ⟨s6 _ _ (s5 _ _ e1), e2⟩
        · obtain ⟨e1, e2, _⟩ := h42 z hz
          exact ⟨s6 _ _ e1, e2⟩
      · rw [List.map_append, h33, h43, hps]
        rfl
    · rintro σ H1 ⟨s3, F, ps, v2, rfl, hF, hps⟩
      exact ⟨_, rfl, kq H1 F ps s3 hF hps⟩
end
end K40
namespace K40
open PySem PyProof.Rows L2
/-! ### lists of texts as data -/
def wD (v : List Bool) : PyData := .list (v.map fun b => .str (way b))
theorem way_ok (b : Bool) : PyData.strOk (way b) = true := by
  cases b <;> decide +kernel
theorem wD_lay (v : List Bool) : (wD v).canLay0 = true := by
  unfold wD
  simp only [PyData.canLay0]
  induction v with
  | nil => simp [PyData.canLayAll0]
  | cons b v ih => simp [PyData.canLayAll0, PyData.canLay0, ih, way_ok]
theorem wD_eqv (v : List Bool) : PyData.eqv (wD v) (wD v) = true := SeqAt.eqv_refl _ (wD_lay v)
theorem wD_depth0 (v : List Bool) : PyData.depthAll (v.map fun b => PyData.str (way b)) = 0 := by
  induction v with
  | nil => simp [PyData.depthAll]
  | cons b v ih => simp [PyData.depthAll, PyData.depth, ih]
theorem wD_depth (v : List Bool) : (wD v).depth = 1 := by
  unfold wD
  simp [PyData.depth, wD_depth0]
theorem wDs_lay : ∀ vs : List (List Bool), PyData.canLayAll0 (vs.map wD) = true
  | [] => by simp [PyData.canLayAll0]
  | v :: vs => by simp [PyData.canLayAll0, wD_lay v, wDs_lay vs]
theorem wDs_depth : ∀ vs : List (List Bool), PyData.depthAll (vs.map wD) ≤ 1
  | [] => by simp [PyData.depthAll]
  | v :: vs => by
    have h1 := wDs_depth vs
    have h2 := wD_depth v
    simp only [List.map_cons, PyData.depthAll]
    omega
theorem wD_shaped (v : List Bool) : SeqAt.shaped (wD v) = true := by
  have h := wD_depth v
  show ((wD v).canLay0 && decide ((wD v).depth ≤ 64)) = true
  rw [wD_lay, decide_eq_true (show (wD v).depth ≤ 64 by omega)]
  rfl
theorem wDs_shaped (vs : List (List Bool)) : SeqAt.shaped (.list (vs.map wD)) = true := by
  have h := wDs_depth vs
  have h2 : PyData.depth (.list (vs.map wD)) ≤ 64 := by
    simp only [PyData.depth]
    omega
  show (PyData.canLay0 (.list (vs.map wD)) && decide (PyData.depth (.list (vs.map wD)) ≤ 64)) = true
  rw [decide_eq_true h2, Bool.and_true]
  simp only [PyData.canLay0]
  exact wDs_lay vs
theorem dp_wb {K : PySem.W.Frag} {H : Hp} : ∀ v : List Bool, DpAll K H (wb v) (v.map fun b => .str (way b))
  | [] => .nil
  | b :: v => .cons (.str _) (dp_wb v)
theorem dp_way {K : PySem.W.Frag} {H : Hp} {a : Addr} {v : List Bool} (h : H a = some (.lst (wb v))) : Dp K H (.ref a) (wD v) := .lst (SqL.of h) (dp_wb v)
theorem dp_wys {K : PySem.W.Frag} {H : Hp} : ∀ ps : List Wy, (∀ z ∈ ps, H z.1 = some (.lst (wb z.2))) → DpAll K H (wyR ps) ((ps.map (·.2)).map wD)
  | [], _ => .nil
  | z :: ps, h => .cons (dp_way (h z (List.mem_cons_self ..))) (dp_wys ps fun y hy => h y (List.mem_cons_of_mem _ hy))
theorem dp_some {K : PySem.W.Frag} {H : Hp} {a : Addr} {ps : List Wy} (h : H a = some (.lst (wyR ps))) (he : ∀ z ∈ ps, H z.1 = some (.lst (wb z.2))) : Dp K H (.ref a) (.list ((ps.map (·.2)).map wD)) := .lst (SqL.of h) (dp_wys ps he)
theorem dp_nil {K : PySem.W.Frag} {H : Hp} {a : Addr} (h : H a = some (.lst [])) : Dp K H (.ref a) (.list []) := .lst (SqL.of h) .nil
theorem hu65 {A : Around} {k : Nat} (hr : Room k A) : A.units + 65 < cLine := by
  have h := hr.un
  omega
section
variable {P : Program} {w : World} {K : PySem.W.Frag} {mg : Str → Option Value} {base : Heap}
def spRight (K : PySem.W.Frag) : Sp := fun vs H Q _ => ∃ (r sd : Addr) (h n m : Nat) (A : Nat → Ask) (q : Nat → Rat), vs = [.ref r, .int (h : Int), .ref sd] ∧ Cxt K H h n m r sd A q ∧ ∀ H', Same H H' → Q (.bl true) H'
theorem scRight : FnScope ["_law_ring", "_law_half", "_law_sending", "_law_asks", "_law_some", "_law_ways", "_law_rows", "_law_due", "_law_slides", "_law_told"] ["_law_ring", "_law_half", "_law_sending"] (defScope (top 72)) := ⟨rfl, rfl, rfl, by decide +kernel, rfl, by decide +kernel, by decide +kernel⟩
theorem bl_eq {a b : Bool} {p : Prop} (h1 : a = true ↔ p) (h2 : b = true ↔ p) : decide (V.bl a = V.bl b) = true := by
  refine decide_eq_true (congrArg V.bl ?_)
  cases a <;> cases b <;> simp_all
theorem d_right (T : Top K mg) : Ok P w K mg base 8 "_law_right" ["_law_ring", "_law_half", "_law_sending"] (spRight K) := by
  have D1 : Ok P w K mg base 1 "_law_all_ways" ["_law_many"] spAllW := d_allW T
  have D2 : Ok P w K mg base 3 "_law_sums" ["_law_asks", "_law_sending", "_law_ways"] (spSums K) := d_sums T
  have D3 : Ok P w K mg base 3 "_law_bounded" ["_law_asks", "_law_rows"] (spBounded K) := d_bounded T
  have D4 : Ok P w K mg base 7 "lets_rounding" ["ring", "sending", "thing"] (spLets K) := d_lets T
  have D5 : Ok P w K mg base 3 "_law_gains_right" ["_law_rows", "_law_half", "_law_gains"] (spGR K) := d_gr T
  have D6 : Ok P w K mg base 5 "gains_of" ["ring", "sending", "ways"] (spGains K) := d_gains T
  have D7 : Ok P w K mg base 7 "rounding_of" ["ring", "sending"] (spRounding K) := d_rounding T
  refine mk_ok (k := 7) T.l_right scRight (fun vs H Q E h => ?_) (fun _ _ _ _ _ _ us hl => match us, hl with | [_, _, _], _ => rfl) (fun f cdv A outer s H vs Q E hr h => ?_)
  · obtain ⟨_, _, _, _, _, _, _, rfl, _⟩ := h
    rfl
  · obtain ⟨r, sd, h, n, m, A, q, rfl, C, kq⟩ := h
    refine ⟨_, pss_cons (ps_set (i := 3) scRight.nd rfl (.inl rfl) (pe_ix ix_tup (pv 0) pe_int (fun _ _ => rfl)))
      (pss_cons (ps_set (i := 4) scRight.nd rfl (.inl rfl) (pe_lst pa_nil))
      (pss_cons (ps_for PassesOwn.never rfl (pi_list (pe_def D1 (hr.mono (by decide)) (by rfl) (pa_cons (pe_callB call_len_seq (by rfl) T.len PySem.boot_len (pa_cons (pv 3) pa_nil)) pa_nil))) (pg_name (i := 5) scRight.nd rfl (.inl rfl))
        (pss_cons (ps_set (i := 6) scRight.nd rfl (.inl rfl) (pe_def D2 (hr.mono (by decide)) (by rfl) (pa_cons (pv 3) (pa_cons (pv 2) (pa_cons (pv 5) pa_nil)))))
        (pss_cons (ps_set (i := 7) scRight.nd rfl (.inl rfl) (pe_def D3 (hr.mono (by decide)) (by rfl) (pa_cons (pv 3) (pa_cons (pv 6) pa_nil))))
        (pss_cons (ps_if (pt_cmpR op_ne (pe_def D4 hr (by rfl) (pa_cons (pv 0) (pa_cons (pv 2) (pa_cons (pe_tup (pa_cons (pe_lst pa_nil) (pa_cons (pv 5) pa_nil))) pa_nil)))) (pv 7) (nomark _)) (pss_one (ps_ret pe_bl)) pss_nil)
        (pss_cons (ps_if (pt_not (pt_val (pe_def D5 (hr.mono (by decide)) (by rfl) (pa_cons (pv 6) (pa_cons (pv 1) (pa_cons (pe_def D6 (hr.mono (by decide)) (by rfl) (pa_cons (pv 0) (pa_cons (pv 2) (pa_cons (pv 5) pa_nil)))) pa_nil)))))) (pss_one (ps_ret pe_bl)) pss_nil)
        (pss_one (ps_if (pt_val (pv 7)) (pss_one (ps_expr (pe_bm PySem.F.plainAttrs_list PySem.F.slot_list_append PySem.F.type_list_append mt_append (pv 4) (pa_cons (pv 5) pa_nil)))) pss_nil)))))))
      (pss_cons (ps_asg (pe_def D7 hr (by rfl) (pa_cons (pv 0) (pa_cons (pv 2) pa_nil))) (pg_tup (by rfl) (pgs_cons (pg_name (i := 8) scRight.nd rfl (.inl rfl)) (pgs_cons (pg_name (i := 9) scRight.nd rfl (.inl rfl)) pgs_nil))))
      (pss_one (ps_ret (pe_and (pe_def D4 hr (by rfl) (pa_cons (pv 0) (pa_cons (pv 2) (pa_cons (pe_tup (pa_cons (pv 8) (pa_cons (pv 9) pa_nil))) pa_nil))))
        (pe_and (pe_cmpR (op_neD hr.units) (pv 4) (pe_lst pa_nil) (nomark _))
        (pe_one (pe_or (pe_cmpR (op_neD hr.units) (pv 8) (pe_lst pa_nil) (nomark _)) (pe_one (pe_cmpR (op_inD (hu65 hr)) (pv 9) (pv 4) (by rfl)))))))))))), ?_⟩
    have hm5 := C.ch.m5
    refine r_asks rfl C.ring fun al g L => ?_
    refine ⟨(by show 0 ≤ sizeLine; decide), fun S hS => ?_⟩
    have s0 := same_new (o := .lst []) hS
    have hS0 : (upd H S (.lst [])) S = some (.lst []) := upd_same
    generalize upd H S (.lst []) = H0 at s0 hS0 ⊢
    refine ⟨_, rfl, al, _, rfl, .inl (SqL.of (s0 _ _ L.lst)), ?_⟩
    rw [refs_len]
    refine ⟨m, rfl, hm5, fun H1 F ps s1 hF hps => ?_⟩
    obtain ⟨hpl, hpv⟩ := allW_small hm5 hps
    have s01 := s0.trans s1
    have hS1 := s1 _ _ hS0
    have hlen : (wyR ps).length = ps.length := List.length_map _
    have pS : ∀ z ∈ ps, z.1 ≠ S := fun z hz e => by
      have h1 := (hF.each z hz).2
      rw [e, hS0] at h1
      cases h1
    refine ⟨F, rfl, ⟨_, SqL.of hF.lst⟩, for_it (walk_list (K := K) (a := F) (xs := wyR ps)) (fun i σ H' => Same H H' ∧ H' F = some (.lst (wyR ps)) ∧ (∀ z ∈ ps, H' z.1 = some (.lst (wb z.2))) ∧ (∃ ss : List Wy, H' S = some (.lst (wyR ss)) ∧ (∀ z ∈ ss, z ∈ ps) ∧ ss.length ≤ i ∧ ∀ j z, j < i → ps[j]? = some z → Due m A q (fnW z.2) → z ∈ ss) ∧
        ∃ v5 v6 v7 : Option V, σ = [some (.ref r), some (.int (h : Int)), some (.ref sd), some (.ref al), some (.ref S), v5, v6, v7, none, none])
      ⟨s01, hF.lst, fun z hz => (hF.each z hz).1, ⟨[], hS1, fun z hz => absurd hz List.not_mem_nil, Nat.le_refl 0, fun j z hj => absurd hj (Nat.not_lt_zero j)⟩, none, none, none, rfl⟩ ?_ ?_ ?_⟩
    · rintro i σ H' _ ⟨_, hF', _⟩
      exact SqL.of hF'
    · rintro i v σ H2 H3 hi ⟨s2, hF2, hz2, ⟨ss, hss1, hss2, hssl, hss3⟩, v5, v6, v7, rfl⟩ ⟨rfl, hv⟩
      obtain ⟨z, hz, rfl⟩ := wyR_at hv
      have hzm := List.mem_of_getElem? hz
      rw [hlen] at hi
      have hzl := hpv z hzm
      have hwa : WaysAt H3 m z.1 (fnW z.2) := by
        unfold WaysAt
        rw [← wb_way hzl]
        exact hz2 z hzm
      have C2 := C.same s2
      -- rows, due
      refine ⟨_, rfl, _, rfl, _, rfl, al, sd, z.1, g, h, n, m, A, q, fnW z.2, rfl, C.ch, C.st, L.same s2, C2.send, hwa, fun H4 rw_ s4 hrw => ?_⟩
      have s24 := s2.trans s4
      refine ⟨_, rfl, _, rfl, al, rw_, g, h, n, m, A, q, fnW z.2, rfl, C.ch, C.st, L.same s24, hrw, fun H5 b1 s5 hb1 => ?_⟩
      have s25 := s24.trans s5
      have hwa5 := s5 _ _ (s4 _ _ hwa)
      -- lets_rounding(ring, sending, ([], ways)) != due
      refine ⟨_, rfl, _, rfl, (by show 0 ≤ sizeLine; decide), fun e he => ?_⟩
      have s6 := same_new (o := .lst []) he
      refine ⟨_, rfl, (by show 2 ≤ sizeLine; decide), fun t ht => ?_⟩
      have s7 := same_new (o := .tup [.ref e, .ref z.1]) ht
      have s67 := s6.trans s7
      refine ⟨r, sd, t, e, z.1, h, n, m, A, q, fnW z.2, rfl, C.same (s25.trans s67), upd_same, s7 _ _ upd_same, s67 _ _ hwa5, fun H8 b2 s8 hb2 => ?_⟩
      refine ⟨_, rfl, rfl, _, rfl, ?_⟩
      rw [bl_eq hb2 hb1]
      refine iteF ?_
      have s58 := s67.trans s8
      have s28 := s25.trans s58
      -- gains
      refine ⟨_, rfl, _, rfl, _, rfl, _, rfl, _, rfl, r, sd, z.1, h, n, m, A, q, fnW z.2, rfl, C.same s28, s58 _ _ hwa5, fun H9 gl s9 hgl => ?_⟩
      refine ⟨rw_, gl, h, n, m, A, q, fnW z.2, rfl, C.ch, C.st, hrw.same (s5.trans (s58.trans s9)), hgl, fun H10 s10 => ?_⟩
      refine ⟨true, rfl, iteF ?_⟩
      have sA : Same H3 H10 := s4.trans (s5.trans (s58.trans (s9.trans s10)))
      have hssA := sA _ _ hss1
      refine ⟨_, rfl, b1, rfl, ?_⟩
      cases b1
      · refine iteF ?_
        refine ⟨s2.trans sA, sA _ _ hF2, fun y hy => sA _ _ (hz2 y hy), ⟨ss, hssA, hss2, by omega, fun j y hj hy hd => ?_⟩, _, _, _, rfl⟩
        by_cases ej : j = i
        · subst ej
          rw [hz] at hy
          cases hy
          exact absurd (hb1.mpr hd) (by decide)
        · exact hss3 j y (by omega) hy hd
      · refine iteT ?_
        refine ⟨_, rfl, .inl ⟨rfl, _, SqL.of hssA⟩, _, rfl, S, _, _, rfl, rfl, hssA, ?_, ?_⟩
        · unfold wyR
          rw [List.length_map]
          exact Nat.lt_of_le_of_lt (show ss.length ≤ 32 by omega) (by decide)
        have eR : wyR ss ++ [V.ref z.1] = wyR (ss ++ [z]) := by
          unfold wyR
          rw [List.map_append]
          rfl
        rw [eR]
        have hne : F ≠ S := fun e => by
          have h1 := hF2
          rw [e] at h1
          have h2 := hF.lst
          rw [e, hS1] at h2
          have h3 := HO.lst.inj (Option.some.inj h2)
          have h4 : (wyR ps).length = 0 := by
            rw [← h3]
            rfl
          omega
        refine ⟨same_mut (s2.trans sA) hS, by rw [upd_ne hne]; exact sA _ _ hF2, fun y hy => by rw [upd_ne (pS y hy)]; exact sA _ _ (hz2 y hy), ⟨ss ++ [z], upd_same, fun y hy => ?_, ?_, fun j y hj hy hd => ?_⟩, _, _, _, rfl⟩
        · rcases List.mem_append.mp hy with hy | hy
          · exact hss2 y hy
          · rw [List.mem_singleton.mp hy]
            exact hzm
        · rw [List.length_append]
          show ss.length + 1 ≤ i + 1
          omega
        · by_cases ej : j = i
          · subst ej
            rw [hz] at hy
            cases hy
            exact List.mem_append_right _ (List.mem_singleton.mpr rfl)
          · exact List.mem_append_left _ (hss3 j y (by omega) hy hd)
    · rintro σ H2 ⟨s2, hF2, hz2, ⟨ss, hss1, hss2, hssl, hss3⟩, v5, v6, v7, rfl⟩
      rw [hlen] at hss3
      have C2 := C.same s2
      refine ⟨_, rfl, _, rfl, r, sd, h, n, m, A, q, rfl, C2, fun H3 p e wl w s3 hp he hwl hd => ?_⟩
      refine ⟨p, _, rfl, SqT.of hp, rfl, _, _, rfl, _, _, rfl, rfl, ?_⟩
      have s23 := s2.trans s3
      refine ⟨_, rfl, _, rfl, _, rfl, _, rfl, (by show 2 ≤ sizeLine; decide), fun t ht => ?_⟩
      have s4 := same_new (o := .tup [.ref e, .ref wl]) ht
      refine ⟨r, sd, t, e, wl, h, n, m, A, q, w, rfl, C.same (s23.trans s4), upd_same, s4 _ _ he, s4 _ _ hwl, fun H5 b s5 hb => ?_⟩
      have s35 := s4.trans s5
      refine ⟨true, congrArg V.bl (hb.mpr hd), iteT ?_⟩
      -- the told ways are among some
      have hmem : ∃ z ∈ ss, z.2 = ext w m := by
        have h1 : ext w m ∈ ps.map (·.2) := by
          rw [hps]
          exact allW_mem w m
        obtain ⟨z, hz, ez⟩ := List.mem_map.mp h1
        obtain ⟨j, hj⟩ := List.getElem?_of_mem hz
        have hjl : j < ps.length := (List.getElem?_eq_some_iff.mp hj).1
        refine ⟨z, hss3 j z hjl hj ?_, ez⟩
        refine due_congr (u := w) (fun k hk => ?_) hd
        have e2 : ext (fnW z.2) m = z.2 := ext_fn (hpv z hz)
        exact ext_congr (e2.trans ez).symm k hk
      have hz5 : ∀ z ∈ ss, H5 z.1 = some (.lst (wb z.2)) := fun z hz => s35 _ _ (s3 _ _ (hz2 z (hss2 z hz)))
      have hS5 := s35 _ _ (s3 _ _ hss1)
      -- some != []
      refine ⟨_, rfl, (by show 0 ≤ sizeLine; decide), fun l1 hl1 => ?_⟩
      have s6 := same_new (o := .lst []) hl1
      refine ⟨.list ((ss.map (·.2)).map wD), .list [], dp_some (s6 _ _ hS5) (fun z hz => s6 _ _ (hz5 z hz)), dp_nil upd_same, wDs_shaped _, wDs_shaped [], true, ?_, iteT ?_⟩
      · obtain ⟨z, hz, _⟩ := hmem
        cases ss with
        | nil => exact absurd hz List.not_mem_nil
        | cons y ss => simp [PyData.eqv, PyData.eqvAll]
      -- slides != [] or told in some
      refine ⟨_, rfl, (by show 0 ≤ sizeLine; decide), fun l2 hl2 => ?_⟩
      have s7 := same_new (o := .lst []) hl2
      have s57 := s6.trans s7
      refine ⟨.list [], .list [], dp_nil (s57 _ _ (s35 _ _ he)), dp_nil upd_same, wDs_shaped [], wDs_shaped [], false, ?_, iteF ?_⟩
      · simp [PyData.eqv, PyData.eqvAll]
      have hwl7 : (upd (upd H5 l1 (.lst [])) l2 (.lst [])) wl = some (.lst (wb (ext w m))) := by
        have e : wb (ext w m) = wayV m w := by
          unfold wb ext wayV
          rw [List.map_map]
          rfl
        rw [e]
        exact s57 _ _ (s35 _ _ hwl)
      refine ⟨_, rfl, _, rfl, wD (ext w m), (ss.map (·.2)).map wD, dp_way hwl7, dp_some (s57 _ _ hS5) (fun z hz => s57 _ _ (hz5 z hz)), wD_shaped _, wDs_shaped _, ?_⟩
      have hany : ((ss.map (·.2)).map wD).any (fun z => PyData.eqv z (wD (ext w m))) = true := by
        obtain ⟨z, hz, ez⟩ := hmem
        exact List.any_eq_true.mpr ⟨wD (ext w m), List.mem_map.mpr ⟨ext w m, List.mem_map.mpr ⟨z, hz, ez⟩, rfl⟩, wD_eqv _⟩
      rw [hany]
      exact kq _ (s23.trans (s35.trans s57))
end
end K40
namespace K40
open PySem PyProof.Rows L2
/-! ### the places that are left -/
theorem nums_erase : ∀ (l : List Nat) (i : Nat), (nums l).eraseIdx i = nums (l.eraseIdx i)
  | [], _ => rfl
  | _ :: _, 0 => rfl
  | k :: l, i + 1 => congrArg (V.int (k : Int) :: ·) (nums_erase l i)
theorem erase_out : ∀ {l : List Nat} {i x : Nat}, l.Nodup → l[i]? = some x → x ∉ l.eraseIdx i
  | [], i, x, _, h => by simp at h
  | k :: l, 0, x, hn, h => by
    have e : k = x := Option.some.inj h
    subst e
    exact (List.nodup_cons.mp hn).1
  | k :: l, i + 1, x, hn, h => by
    have h2 : l[i]? = some x := h
    have ih := erase_out (List.nodup_cons.mp hn).2 h2
    intro hm
    rcases List.mem_cons.mp (show x ∈ k :: l.eraseIdx i from hm) with e | hm
    · exact (List.nodup_cons.mp hn).1 (e ▸ List.mem_of_getElem? h2)
    · exact ih hm
theorem seq_nat {n i : Nat} (h : i < n) : seqIndex? (i : Int) n = some i := by
  unfold seqIndex?
  rw [if_neg (show ¬ (i : Int) < 0 by omega)]
  show (if (decide (0 ≤ (i : Int)) && decide ((i : Int) < (n : Int))) = true then some (i : Int).toNat else none) = some i
  rw [decide_eq_true (show 0 ≤ (i : Int) by omega), decide_eq_true (show (i : Int) < (n : Int) by omega), Int.toNat_natCast]
  rfl
structure Part (h k : Nat) (A : Nat → Ask) (ls : List Nat) : Prop where
  len : ls.length + k = h
  nd : ls.Nodup
  lt : ∀ x ∈ ls, x < h
  ask : ∀ j, j < k → (A j).p < h ∧ (A j).p ∉ ls ∧ 0 < (A j).s ∧ Bd 50 (A j).s
  inj : ∀ i j, i < k → j < k → (A i).p = (A j).p → i = j
def updA (A : Nat → Ask) (k : Nat) (a : Ask) : Nat → Ask := fun j => if j = k then a else A j
theorem updA_same (A : Nat → Ask) (k : Nat) (a : Ask) : updA A k a k = a := if_pos rfl
theorem updA_ne (A : Nat → Ask) (k : Nat) (a : Ask) {j : Nat} (h : j ≠ k) : updA A k a j = A j := if_neg h
theorem part0 {h : Nat} {A : Nat → Ask} : Part h 0 A (List.range h) := ⟨by rw [List.length_range, Nat.add_zero], List.nodup_range, fun x hx => List.mem_range.mp hx, fun j hj => absurd hj (Nat.not_lt_zero j), fun i j hi => absurd hi (Nat.not_lt_zero i)⟩
theorem Part.more {h k i : Nat} {A : Nat → Ask} {ls : List Nat} {a : Ask} (Pt : Part h k A ls) (hi : ls[i]? = some a.p) (hs : 0 < a.s) (hb : Bd 50 a.s) : Part h (k + 1) (updA A k a) (ls.eraseIdx i) := by
  have hil : i < ls.length := (List.getElem?_eq_some_iff.mp hi).1
  have hap := List.mem_of_getElem? hi
  refine ⟨?_, List.Pairwise.sublist (List.eraseIdx_sublist _ _) Pt.nd, fun x hx => Pt.lt x (List.mem_of_mem_eraseIdx hx), fun j hj => ?_, fun x y hx hy e => ?_⟩
  · rw [List.length_eraseIdx, if_pos hil]
    have := Pt.len
    omega
  · by_cases e : j = k
    · subst e
      rw [updA_same]
      exact ⟨Pt.lt _ hap, erase_out Pt.nd hi, hs, hb⟩
    · rw [updA_ne _ _ _ e]
      obtain ⟨h1, h2, h3, h4⟩ := Pt.ask j (by omega)
      exact ⟨h1, fun hm => h2 (List.mem_of_mem_eraseIdx hm), h3, h4⟩
  · by_cases ex : x = k
    · by_cases ey : y = k
      · rw [ex, ey]
      · rw [ex, updA_same, updA_ne _ _ _ ey] at e
        exact absurd (e ▸ hap) (Pt.ask y (by omega)).2.1
    · by_cases ey : y = k
      · rw [ey, updA_same, updA_ne _ _ _ ex] at e
        exact absurd (e ▸ hap) (Pt.ask x (by omega)).2.1
      · rw [updA_ne _ _ _ ex, updA_ne _ _ _ ey] at e
        exact Pt.inj x y (by omega) (by omega) e
/-! ### what stands of tuples -/
structure TupS (H H' : Hp) : Prop where
  t : ∀ b xs, H b = some (.tup xs) → H' b = some (.tup xs)
  z : ∀ b o u, H b = some (.frz o u) → H' b = some (.frz o u)
theorem TupS.refl (H : Hp) : TupS H H := ⟨fun _ _ h => h, fun _ _ _ h => h⟩
theorem TupS.trans {H H1 H2 : Hp} (a : TupS H H1) (b : TupS H1 H2) : TupS H H2 := ⟨fun c xs h => b.t c xs (a.t c xs h), fun c o u h => b.z c o u (a.z c o u h)⟩
theorem TupS.same {H H' : Hp} (s : Same H H') : TupS H H' := ⟨fun b xs h => s b _ h, fun b o u h => s b _ h⟩
theorem TupS.but {H H' : Hp} {p : Addr} {zs : List V} (hp : H p = some (.lst zs)) (e : But p H H') : TupS H H' :=
  ⟨fun b xs h => e b _ (ne_of h hp (fun e => HO.noConfusion e)) h, fun b o u h => e b _ (ne_of h hp (fun e => HO.noConfusion e)) h⟩
theorem StateAt.lst {H : Hp} {p : Addr} (h : StateAt H p) : ∃ zs, H p = some (.lst zs) := by
  obtain ⟨c, x, b, h1, _⟩ := h
  exact ⟨_, h1⟩
theorem FR.ts {K : PySem.W.Frag} {H H' : Hp} {a : Addr} {q : Rat} (h : FR K H a q) (e : TupS H H') : FR K H' a q := by
  rcases h with (h | ⟨o, h⟩) | h
  · exact .inl (.inl (e.t _ _ h))
  · exact .inl (.inr ⟨o, e.z _ _ _ h⟩)
  · exact .inr h
theorem AskAt.ts {K : PySem.W.Frag} {H H' : Hp} {h : Nat} {x : Addr} {a : Ask} (R : AskAt K H h x a) (e : TupS H H') : AskAt K H' h x a := by
  obtain ⟨nm, s, h1, h2⟩ := R
  exact ⟨nm, s, e.t _ _ h1, h2.ts e⟩
theorem letter {k : Nat} (h : k < 5) : ∃ c, (("abcde" : Str).cps.toList)[k]? = some c := by
  match k, h with
  | 0, _ => exact ⟨97, by decide +kernel⟩
  | 1, _ => exact ⟨98, by decide +kernel⟩
  | 2, _ => exact ⟨99, by decide +kernel⟩
  | 3, _ => exact ⟨100, by decide +kernel⟩
  | 4, _ => exact ⟨101, by decide +kernel⟩
theorem rgV_nat (h : Nat) : rgV 0 (h : Int) = nums (List.range h) := by
  unfold rgV nums
  rw [show ((h : Int) - 0).toNat = h by omega]
  refine List.map_congr_left fun k _ => ?_
  rw [Int.zero_add]
section
variable {P : Program} {w : World} {K : PySem.W.Frag} {mg : Str → Option Value} {base : Heap}
def spChain (K : PySem.W.Frag) : Sp := fun vs H Q _ => ∃ (a : Addr) (ns : List Int), vs = [.ref a] ∧ SqL K H a (ns.map V.int) ∧
  ∀ (H' : Hp) (t rm al : Addr) (xs : List V) (f : Nat → Addr) (h n m : Nat) (A : Nat → Ask), Same H H' → H' t = some (.tup [.ref rm, .ref al, .int (h : Int)]) → H' rm = some (.lst xs) → xs.length = n → AsksAt K H' h m al A f → Chain h n m A → Q (.ref t) H'
theorem scChain : FnScope ["_law_script", "_law_state", "_law_half", "_law_places", "_law_many", "_law_left", "_law_source", "_law_kind", "_law_asks", "_law_k", "_law_place", "_law_ends", "_law_name", "_law_one", "_law_other", "_law_size"] ["_law_script"] (defScope (top 67)) := ⟨rfl, rfl, rfl, by decide +kernel, rfl, by decide +kernel, by decide +kernel⟩
theorem d_chain (T : Top K mg) : Ok P w K mg base 3 "_law_chain" ["_law_script"] (spChain K) := by
  have D1 : Ok P w K mg base 1 "_law_begun" ["_law_script", "_law_k"] (spBegun K) := d_begun T
  have D2 : Ok P w K mg base 1 "_law_take" ["_law_state", "_law_many"] spTake := d_take T
  have D3 : Ok P w K mg base 2 "_law_amount" ["_law_state", "_law_least", "_law_kind"] (spAmount K) := d_amount T
  refine mk_ok (k := 2) T.l_chain scChain (fun vs H Q E h => ?_) (fun _ _ _ _ _ _ us hl => match us, hl with | [_], _ => rfl) (fun f cdv A outer s H vs Q E hr h => ?_)
  · obtain ⟨_, _, rfl, _⟩ := h
    rfl
  · obtain ⟨a, ns, rfl, hS, kq⟩ := h
    refine ⟨_, pss_cons (ps_set (i := 1) scChain.nd rfl (.inl rfl) (pe_def D1 (hr.mono (by decide)) (by rfl) (pa_cons (pv 0) (pa_cons pe_int pa_nil))))
      (pss_cons (ps_set (i := 2) scChain.nd rfl (.inl rfl) (pe_op op_add pe_int (pe_def D2 (hr.mono (by decide)) (by rfl) (pa_cons (pv 1) (pa_cons pe_int pa_nil)))))
      (pss_cons (ps_set (i := 3) scChain.nd rfl (.inl rfl) (pe_op op_add (pe_op op_mul pe_int (pv 2)) (pe_def D2 (hr.mono (by decide)) (by rfl) (pa_cons (pv 1) (pa_cons pe_int pa_nil)))))
      (pss_cons (ps_set (i := 4) scChain.nd rfl (.inl rfl) (pe_op op_add pe_int (pe_def D2 (hr.mono (by decide)) (by rfl) (pa_cons (pv 1) (pa_cons (pv 2) pa_nil)))))
      (pss_cons (ps_set (i := 5) scChain.nd rfl (.inl rfl) (pe_listRg rfl (by rfl) T.list (prg_1 (by rfl) T.range (pv 2))))
      (pss_cons (ps_set (i := 6) scChain.nd rfl (.inl rfl) (pe_def D1 (hr.mono (by decide)) (by rfl) (pa_cons (pv 0) (pa_cons pe_int pa_nil))))
      (pss_cons (ps_set (i := 7) scChain.nd rfl (.inl rfl) (pe_def D2 (hr.mono (by decide)) (by rfl) (pa_cons (pv 1) (pa_cons pe_int pa_nil))))
      (pss_cons (ps_set (i := 8) scChain.nd rfl (.inr rfl) (pe_lst pa_nil))
      (pss_cons (ps_for PassesOwn.never rfl (pi_range1 (by rfl) T.range (pa_cons (pv 4) pa_nil)) (pg_name (i := 9) scChain.nd rfl (.inl rfl))
        (pss_cons (ps_set (i := 10) scChain.nd rfl (.inl rfl) (pe_bm PySem.F.plainAttrs_list PySem.F.slot_list_pop PySem.F.type_list_pop mt_popAt (pv 5) (pa_cons (pe_def D2 (hr.mono (by decide)) (by rfl) (pa_cons (pv 1) (pa_cons (pe_callB call_len_seq (by rfl) T.len PySem.boot_len (pa_cons (pv 5) pa_nil)) pa_nil))) pa_nil)))
        (pss_cons (ps_set (i := 11) scChain.nd rfl (.inl rfl) (pe_lst (pa_cons (pv 10) (pa_cons (pe_op op_add (pv 10) (pv 2)) pa_nil))))
        (pss_cons (ps_if (pt_cmpR op_eq (pe_def D2 (hr.mono (by decide)) (by rfl) (pa_cons (pv 1) (pa_cons pe_int pa_nil))) pe_int (nomark _)) (pss_one (ps_expr (pe_bm0 PySem.F.plainAttrs_list PySem.F.slot_list_reverse PySem.F.type_list_reverse mt_reverse (pv 11)))) pss_nil)
        (pss_one (ps_expr (pe_bm PySem.F.plainAttrs_list PySem.F.slot_list_append PySem.F.type_list_append mt_append (pv 8) (pa_cons (pe_tup (pa_cons (pe_ix ix_str pe_str (pv 9) (fun _ _ => rfl)) (pa_cons (pe_ix ix_list (pv 11) pe_int (fun _ _ => rfl)) (pa_cons (pe_ix ix_list (pv 11) pe_int (fun _ _ => rfl)) (pa_cons (pe_def D3 hr (by rfl) (pa_cons (pv 6) (pa_cons pe_int (pa_cons (pv 7) pa_nil)))) pa_nil))))) pa_nil))))))))
      (pss_cons (ps_if (pt_cmpR op_eq (pe_def D2 (hr.mono (by decide)) (by rfl) (pa_cons (pv 1) (pa_cons pe_int pa_nil))) pe_int (nomark _))
        (pss_one (ps_set (i := 8) scChain.nd rfl (.inr rfl) (pe_lc (own := [("_law_name", 12), ("_law_one", 13), ("_law_other", 14), ("_law_size", 15)]) (g := gTup K 4 _) rfl scChain.nd (pi_list (pv 8))
          (blkOk_by (N := ["_law_script", "_law_state", "_law_half", "_law_places", "_law_many", "_law_left", "_law_source", "_law_kind", "_law_asks", "_law_k", "_law_place", "_law_ends", "_law_name", "_law_one", "_law_other", "_law_size"]) (sc := defScope (top 67)) (by decide +kernel))
          (fun _ _ _ _ _ => pg_tup (by rfl) (pgs_cons (pg_name (i := 12) scChain.nd rfl (Or.inl rfl)) (pgs_cons (pg_name (i := 13) scChain.nd rfl (Or.inl rfl)) (pgs_cons (pg_name (i := 14) scChain.nd rfl (Or.inl rfl)) (pgs_cons (pg_name (i := 15) scChain.nd rfl (Or.inl rfl)) pgs_nil))))) (fun _ _ _ _ _ => pts_nil)
          (fun _ _ _ _ _ => pe_tup (pa_cons (pv 12) (pa_cons (pv 13) (pa_cons (pv 14) (pa_cons (pe_ix (r := rIxT K) ix_tup (pe_ix (r := rIxL K) ix_list (pv 8) pe_int (fun _ _ => rfl)) pe_int (fun _ _ => rfl)) pa_nil)))))))) pss_nil)
      (pss_one (ps_ret (pe_tup (pa_cons (pe_op op_rep (pe_lst (pa_cons (pe_tup (pa_cons pe_int (pa_cons pe_int pa_nil))) pa_nil)) (pv 3)) (pa_cons (pv 8) (pa_cons (pv 2) pa_nil))))))))))))))), ?_⟩
    -- state = begun(script, 0); half; places; many
    refine ⟨_, rfl, a, ns, 0, rfl, hS, by decide, fun H1 st s1 nst hst => ?_⟩
    refine ⟨_, rfl, st, 4, rfl, hst, by decide, small_abs (by decide) (by decide), fun H2 d1 b2 hst2 d10 d11 => ?_⟩
    obtain ⟨h, hh⟩ : ∃ h : Nat, (2 : Int) + d1 = (h : Int) := ⟨(2 + d1).toNat, by omega⟩
    refine ⟨2, d1, rfl, rfl, ?_⟩
    dsimp only
    rw [hh]
    refine ⟨_, rfl, 2, (h : Int), rfl, rfl, .inl ⟨by decide, by decide⟩, _, rfl, st, 2, rfl, hst2, by decide, small_abs (by decide) (by decide), fun H3 d2 b3 hst3 d20 d21 => ?_⟩
    obtain ⟨n, hn⟩ : ∃ n : Nat, (2 : Int) * (h : Int) + d2 = (n : Int) := ⟨(2 * (h : Int) + d2).toNat, by omega⟩
    refine ⟨_, _, rfl, rfl, ?_⟩
    dsimp only
    rw [hn]
    refine ⟨_, rfl, _, rfl, st, (h : Int), rfl, hst3, by omega, small_abs (by omega) (by omega), fun H4 d3 b4 hst4 d30 d31 => ?_⟩
    obtain ⟨m, hm⟩ : ∃ m : Nat, (1 : Int) + d3 = (m : Int) := ⟨(1 + d3).toNat, by omega⟩
    refine ⟨1, d3, rfl, rfl, ?_⟩
    dsimp only
    rw [hm]
    have h2 : 2 ≤ h := by omega
    have h5 : h ≤ 5 := by omega
    have n2 : n = 2 * h ∨ n = 2 * h + 1 := by omega
    have m1 : 1 ≤ m := by omega
    have mh : m ≤ h := by omega
    clear hh hn hm
    have s4 : Same H H4 := But.same s1 (b2.trans (b3.trans b4)) nst
    -- left = list(range(half)); source; kind; asks = []
    refine ⟨_, rfl, (h : Int), rfl, RgOk.of_le (by decide) (by omega) (by decide) (by omega), fun lf hlf => ?_⟩
    rw [rgV_nat]
    have s5 := same_new (o := .lst (nums (List.range h))) hlf
    have s45 := s4.trans s5
    have hlf5 : (upd H4 lf (.lst (nums (List.range h)))) lf = some (.lst (nums (List.range h))) := upd_same
    have stlf : st ≠ lf := by
      obtain ⟨zs, hz⟩ := hst4.lst
      exact ne_of_none hz hlf
    have hst5 := hst4.same s5
    generalize upd H4 lf (.lst (nums (List.range h))) = H5 at s5 s45 hlf5 hst5 ⊢
    refine ⟨_, rfl, a, ns, 1, rfl, s45.seq hS, by decide, fun H6 so s6 nso hso => ?_⟩
    have stso : st ≠ so := by
      obtain ⟨zs, hz⟩ := hst5.lst
      exact ne_of_none hz nso
    have lfso : lf ≠ so := ne_of_none hlf5 nso
    refine ⟨_, rfl, st, 5, rfl, hst5.same s6, by decide, small_abs (by decide) (by decide), fun H7 d4 b7 hst7 d40 d41 => ?_⟩
    obtain ⟨kd, rfl⟩ := Int.eq_ofNat_of_zero_le d40
    have hkd : kd < 5 := by omega
    have s7 : Same H H7 := But.same (s45.trans s6) b7 nst
    have hso7 := hso.but b7 (Ne.symm stso)
    have hlf7 := b7 _ _ (Ne.symm stlf) (s6 _ _ hlf5)
    refine ⟨(by show 0 ≤ sizeLine; decide), fun al hal => ?_⟩
    have stal : st ≠ al := by
      obtain ⟨zs, hz⟩ := hst7.lst
      exact ne_of_none hz hal
    have soal : so ≠ al := by
      obtain ⟨zs, hz⟩ := hso7.lst
      exact ne_of_none hz hal
    have lfal : lf ≠ al := ne_of_none hlf7 hal
    have nlf : H lf = none := s4.free hlf
    have nsoH : H so = none := s45.free nso
    have nal : H al = none := s7.free hal
    have s8 := same_new (o := .lst []) hal
    refine ⟨_, rfl, (m : Int), rfl, by omega, by omega, ?_⟩
    rw [Int.toNat_natCast]
    -- for k in range(many)
    refine for_it walk_range0 (fun k σ H' => ∃ (ls : List Nat) (A : Nat → Ask) (g : Nat → Addr) (v9 v10 v11 : Option V), σ = [some (.ref a), some (.ref st), some (.int (h : Int)), some (.int (n : Int)), some (.int (m : Int)), some (.ref lf), some (.ref so), some (.int (kd : Int)), some (.ref al), v9, v10, v11, none, none, none, none] ∧
        Same H H' ∧ StateAt H' st ∧ StateAt H' so ∧ H' lf = some (.lst (nums ls)) ∧ H' al = some (.lst (refs k g)) ∧ (∀ j, j < k → AskAt K H' h (g j) (A j)) ∧ Part h k A ls)
      ⟨List.range h, fun _ => ⟨true, 0, 0⟩, fun _ => 0, none, none, none, rfl, s7.trans s8, hst7.same s8, hso7.same s8, s8 _ _ hlf7, upd_same, fun j hj => absurd hj (Nat.not_lt_zero j), part0⟩ (fun _ _ _ _ _ => trivial) ?_ ?_
    · rintro k v σ X1 X2 hk ⟨ls, A, g, v9, v10, v11, rfl, t1, hst1, hso1, hlf1, hal1, hask, Pt⟩ ⟨rfl, rfl⟩
      have hll := Pt.len
      -- place = left.pop(take(state, len(left)))
      refine ⟨_, rfl, .inl ⟨rfl, _, SqL.of hlf1⟩, _, rfl, _, rfl, lf, _, rfl, .inl (SqL.of hlf1), ?_⟩
      rw [nums_len]
      refine ⟨st, (ls.length : Int), rfl, hst1, by omega, small_abs (by omega) (by omega), fun X3 d b3 hst3 d0 d1 => ?_⟩
      obtain ⟨ix, rfl⟩ := Int.eq_ofNat_of_zero_le d0
      have hix : ix < ls.length := by omega
      obtain ⟨pl, hpl⟩ : ∃ pl, ls[ix]? = some pl := ⟨ls[ix], List.getElem?_eq_getElem hix⟩
      have hlf3 := b3 _ _ (Ne.symm stlf) hlf1
      refine ⟨lf, nums ls, (ix : Int), ix, .int (pl : Int), rfl, rfl, hlf3, by omega, by omega, seq_nat (by rw [nums_len]; exact hix), nums_at hpl, ?_⟩
      rw [nums_erase]
      have t3 := But.same t1 b3 nst
      have z3 : TupS X2 X3 := by
        obtain ⟨zs, hz⟩ := hst1.lst
        exact TupS.but hz b3
      have b4 : But lf X3 (upd X3 lf (.lst (nums (ls.eraseIdx ix)))) := But.upd
      have hlf4 : (upd X3 lf (.lst (nums (ls.eraseIdx ix)))) lf = some (.lst (nums (ls.eraseIdx ix))) := upd_same
      generalize upd X3 lf (.lst (nums (ls.eraseIdx ix))) = X4 at b4 hlf4 ⊢
      have t4 := But.same t3 b4 nlf
      have z4 := z3.trans (TupS.but hlf3 b4)
      have hst4 := hst3.but b4 stlf
      have hso4 := (hso1.but b3 (Ne.symm stso)).but b4 (Ne.symm lfso)
      have hal4 := b4 _ _ (Ne.symm lfal) (b3 _ _ (Ne.symm stal) hal1)
      -- ends = [place, place + half]
      refine ⟨_, rfl, _, rfl, _, rfl, _, _, rfl, rfl, (by show 2 ≤ sizeLine; decide), fun en hen => ?_⟩
      have s5 := same_new (o := .lst [.int (pl : Int), .int ((pl : Int) + (h : Int))]) hen
      have hen5 : (upd X4 en (.lst [.int (pl : Int), .int ((pl : Int) + (h : Int))])) en = some (.lst [.int (pl : Int), .int ((pl : Int) + (h : Int))]) := upd_same
      have enst : en ≠ st := by
        obtain ⟨zs, hz⟩ := hst4.lst
        exact Ne.symm (ne_of_none hz hen)
      have enso : en ≠ so := by
        obtain ⟨zs, hz⟩ := hso4.lst
        exact Ne.symm (ne_of_none hz hen)
      have enlf : en ≠ lf := Ne.symm (ne_of_none hlf4 hen)
      have enal : en ≠ al := Ne.symm (ne_of_none hal4 hen)
      have nen : H en = none := t4.free hen
      -- the end of the turn
      have fin : ∀ (up : Bool) (X : Hp), Same H X → TupS X2 X → StateAt X st → StateAt X so → X lf = some (.lst (nums (ls.eraseIdx ix))) → X al = some (.lst (refs k g)) → X en = some (.lst [.int (((⟨up, pl, 0⟩ : Ask).one h : Nat) : Int), .int (((⟨up, pl, 0⟩ : Ask).oth h : Nat) : Int)]) →
          tDrop (tBM K "list" rAppend (tVar 8) (tCons (tTup (tCons (tOp rIxS (tC (.str "abcde")) (tVar 9)) (tCons (tOp (rIxL K) (tVar 11) (tC (.int 0))) (tCons (tOp (rIxL K) (tVar 11) (tC (.int 1))) (tCons (tCall (spAmount K) [] E0 (tCons (tVar 6) (tCons (tC (.int 1)) (tCons (tVar 7) tNil)))) tNil))))) tNil))
            { nx := fun σ H' => ∃ (ls : List Nat) (A : Nat → Ask) (g : Nat → Addr) (v9 v10 v11 : Option V), σ = [some (.ref a), some (.ref st), some (.int (h : Int)), some (.int (n : Int)), some (.int (m : Int)), some (.ref lf), some (.ref so), some (.int (kd : Int)), some (.ref al), v9, v10, v11, none, none, none, none] ∧
                Same H H' ∧ StateAt H' st ∧ StateAt H' so ∧ H' lf = some (.lst (nums ls)) ∧ H' al = some (.lst (refs (k + 1) g)) ∧ (∀ j, j < k + 1 → AskAt K H' h (g j) (A j)) ∧ Part h (k + 1) A ls, rt := Q }
            [some (.ref a), some (.ref st), some (.int (h : Int)), some (.int (n : Int)), some (.int (m : Int)), some (.ref lf), some (.ref so), some (.int (kd : Int)), some (.ref al), some (.int (k : Int)), some (.int (pl : Int)), some (.ref en), none, none, none, none] X := by
        intro up X y1 y2 y3 y4 y5 y6 y7
        obtain ⟨c, hc⟩ := letter (show k < 5 by omega)
        refine ⟨_, rfl, .inl ⟨rfl, _, SqL.of y6⟩, _, rfl, _, (k : Int), c, rfl, rfl, (by decide), atI_nat hc, ?_⟩
        refine ⟨_, rfl, en, _, 0, _, rfl, rfl, SqL.of y7, rfl, _, rfl, en, _, 1, _, rfl, rfl, SqL.of y7, rfl, ?_⟩
        refine ⟨_, rfl, _, rfl, so, kd, rfl, y4, hkd, fun X8 x sz b8 hso8 hx hpos hbd => ?_⟩
        have w1 := But.same y1 b8 nsoH
        have w2 : TupS X2 X8 := by
          obtain ⟨zs, hz⟩ := y4.lst
          exact y2.trans (TupS.but hz b8)
        have w3 := y3.but b8 stso
        have w5 := b8 _ _ lfso y5
        have w6 := b8 _ _ (Ne.symm soal) y6
        refine ⟨(by show 4 ≤ sizeLine; decide), fun t ht => ?_⟩
        have s9 := same_new (o := .tup [.str ⟨#[c]⟩, .int (((⟨up, pl, 0⟩ : Ask).one h : Nat) : Int), .int (((⟨up, pl, 0⟩ : Ask).oth h : Nat) : Int), .ref x]) ht
        have w69 := s9 _ _ w6
        refine ⟨al, refs k g, _, rfl, rfl, w69, ?_, ?_⟩
        · rw [refs_len]
          exact small5 (by omega)
        rw [refs_put]
        have bA : But al _ (upd (upd X8 t (.tup [.str ⟨#[c]⟩, .int (((⟨up, pl, 0⟩ : Ask).one h : Nat) : Int), .int (((⟨up, pl, 0⟩ : Ask).oth h : Nat) : Int), .ref x])) al (.lst (refs (k + 1) (put g k t)))) := But.upd
        have zA := TupS.but w69 bA
        refine ⟨ls.eraseIdx ix, updA A k ⟨up, pl, sz⟩, put g k t, _, _, _, rfl, But.same (w1.trans s9) bA nal, (w3.same s9).but bA stal, (hso8.same s9).but bA soal, bA _ _ lfal (s9 _ _ w5), upd_same, fun j hj => ?_, Pt.more (a := ⟨up, pl, sz⟩) hpl hpos hbd⟩
        by_cases e : j = k
        · subst e
          rw [put_same, updA_same]
          exact ⟨⟨#[c]⟩, x, zA.t _ _ upd_same, (hx.same s9).ts zA⟩
        · rw [put_ne _ _ _ e, updA_ne _ _ _ e]
          exact (hask j (by omega)).ts (w2.trans ((TupS.same s9).trans zA))
      -- if take(state, 2) == 1: ends.reverse()
      have t5 := t4.trans s5
      have z5 := z4.trans (TupS.same s5)
      refine ⟨_, rfl, st, 2, rfl, hst4.same s5, by decide, small_abs (by decide) (by decide), fun X6 d6 b6 hst6 _ _ => ?_⟩
      have t6 := But.same t5 b6 nst
      have z6 : TupS X2 X6 := by
        obtain ⟨zs, hz⟩ := (hst4.same s5).lst
        exact z5.trans (TupS.but hz b6)
      have hso6 := (hso4.same s5).but b6 (Ne.symm stso)
      have hlf6 := b6 _ _ (Ne.symm stlf) (s5 _ _ hlf4)
      have hal6 := b6 _ _ (Ne.symm stal) (s5 _ _ hal4)
      have hen6 := b6 _ _ enst hen5
      refine ⟨rfl, _, rfl, ?_⟩
      by_cases c : d6 = 1
      · rw [decide_eq_true (show V.int d6 = V.int 1 by rw [c])]
        refine iteT ?_
        refine ⟨_, rfl, .inl ⟨rfl, _, SqL.of hen6⟩, en, _, rfl, rfl, hen6, ?_⟩
        have b7 : But en X6 (upd X6 en (.lst [V.int (pl : Int), .int ((pl : Int) + (h : Int))].reverse)) := But.upd
        exact fin false _ (But.same t6 b7 nen) (z6.trans (TupS.but hen6 b7)) (hst6.but b7 (Ne.symm enst)) (hso6.but b7 (Ne.symm enso)) (b7 _ _ (Ne.symm enlf) hlf6) (b7 _ _ (Ne.symm enal) hal6) upd_same
      · rw [decide_eq_false (show ¬ V.int d6 = V.int 1 from fun e => c (V.int.inj e))]
        refine iteF ?_
        exact fin true X6 t6 z6 hst6 hso6 hlf6 hal6 hen6
    · rintro σ X1 ⟨ls, A, g, v9, v10, v11, rfl, t1, hst1, hso1, hlf1, hal1, hask, Pt⟩
      have C : Chain h n m A := ⟨h2, h5, n2, m1, by omega, fun k hk => (Pt.ask k hk).1, Pt.inj, fun k hk => (Pt.ask k hk).2.2.1, fun k hk => (Pt.ask k hk).2.2.2⟩
      -- what is handed back
      have fin : ∀ (X : Hp) (al : Addr) (A : Nat → Ask) (g : Nat → Addr), Same H X → AsksAt K X h m al A g → Chain h n m A →
          tRet (tTup (tCons (tOp rRep (tLst (tCons (tTup (tCons (tC (.int 1)) (tCons (tC (.int 1)) tNil))) tNil)) (tVar 3)) (tCons (tVar 8) (tCons (tVar 2) tNil)))) { nx := fun _ H' => Q .non H', rt := Q }
            [some (.ref a), some (.ref st), some (.int (h : Int)), some (.int (n : Int)), some (.int (m : Int)), some (.ref lf), some (.ref so), some (.int (kd : Int)), some (.ref al), v9, v10, v11, none, none, none, none] X := by
        intro X al A g y1 y2 y3
        refine ⟨(by show 2 ≤ sizeLine; decide), fun t ht => ?_⟩
        have s2 := same_new (o := .tup [.int 1, .int 1]) ht
        refine ⟨(by show 1 ≤ sizeLine; decide), fun l hl => ?_⟩
        have s3 := same_new (o := .lst [.ref t]) hl
        refine ⟨_, rfl, l, (n : Int), _, rfl, rfl, upd_same, by omega, by omega, ?_, fun rm hrm => ?_⟩
        · rw [Int.toNat_natCast]
          exact Nat.le_trans (show 1 * n ≤ 11 by omega) (by decide)
        rw [Int.toNat_natCast, rep_refs]
        have s4 := same_new (o := .lst (refs n fun _ => t)) hrm
        refine ⟨_, rfl, _, rfl, (by show 3 ≤ sizeLine; decide), fun p hp => ?_⟩
        have s5 := same_new (o := .tup [.ref rm, .ref al, .int (h : Int)]) hp
        have s25 := s2.trans (s3.trans (s4.trans s5))
        exact kq _ p rm al (refs n fun _ => t) g h n m A (y1.trans s25) upd_same (s5 _ _ upd_same) (refs_len _ _) (y2.same s25) y3
      refine ⟨_, rfl, st, 3, rfl, hst1, by decide, small_abs (by decide) (by decide), fun X2 d2 b2 hst2 _ _ => ?_⟩
      have t2 := But.same t1 b2 nst
      have z2 : TupS X1 X2 := by
        obtain ⟨zs, hz⟩ := hst1.lst
        exact TupS.but hz b2
      have L : AsksAt K X2 h m al A g := ⟨b2 _ _ (Ne.symm stal) hal1, fun k hk => (hask k hk).ts z2⟩
      refine ⟨rfl, _, rfl, ?_⟩
      by_cases c : d2 = 0
      · rw [decide_eq_true (show V.int d2 = V.int 0 by rw [c])]
        refine iteT ?_
        refine ⟨_, rfl, al, rfl, ⟨_, SqL.of L.lst⟩, fun D hD => ?_⟩
        have C2 : Chain h n m fun k => ⟨(A k).up, (A k).p, (A 0).s⟩ := ⟨h2, h5, n2, m1, by omega, C.lt, C.inj, fun k hk => C.pos 0 (by omega), fun k hk => C.bd 0 (by omega)⟩
        refine lc_it (walk_list (K := K) (a := al) (xs := refs m g)) (fun i H' => Same X2 H' ∧ ∃ g' : Nat → Addr, H' D = some (.lst (refs i g')) ∧ ∀ k, k < i → AskAt K H' h (g' k) ⟨(A k).up, (A k).p, (A 0).s⟩) ⟨same_new hD, fun _ => 0, upd_same, fun k hk => absurd hk (Nat.not_lt_zero k)⟩ ?_ ?_ ?_
        · rintro i H' _ ⟨y1, _⟩
          exact SqL.of (y1 _ _ L.lst)
        · rintro i v X3 X4 hi ⟨y1, g', y2, y3⟩ ⟨rfl, hv⟩
          obtain ⟨hi', rfl⟩ := refs_of hv
          obtain ⟨nm, sz, e1, e2⟩ := L.ask i hi'
          obtain ⟨nm0, sz0, e3, e4⟩ := L.ask 0 (by omega)
          refine ⟨g i, _, rfl, SqT.of (y1 _ _ e1), rfl, _, _, rfl, _, _, rfl, _, _, rfl, _, _, rfl, rfl, rfl, ?_⟩
          refine ⟨_, rfl, _, rfl, _, rfl, _, rfl, al, _, 0, _, rfl, rfl, SqL.of (y1 _ _ L.lst), atI_nat (refs_at (show 0 < m by omega)), g 0, _, 3, .ref sz0, rfl, rfl, SqT.of (y1 _ _ e3), rfl, (by show 4 ≤ sizeLine; decide), fun t ht => ?_⟩
          have s5 := same_new (o := .tup [.str nm, .int (((A i).one h : Nat) : Int), .int (((A i).oth h : Nat) : Int), .ref sz0]) ht
          have y2' := s5 _ _ y2
          have bA : But D _ (upd (upd X4 t (.tup [.str nm, .int (((A i).one h : Nat) : Int), .int (((A i).oth h : Nat) : Int), .ref sz0])) D (.lst (refs (i + 1) (put g' i t)))) := But.upd
          have zA := TupS.but y2' bA
          refine ⟨refs i g', y2', ?_, ?_⟩
          · rw [refs_len]
            exact small5 (by omega)
          rw [refs_put]
          refine ⟨But.same (y1.trans s5) bA hD, put g' i t, upd_same, fun k hk => ?_⟩
          by_cases e : k = i
          · subst e
            rw [put_same]
            exact ⟨nm, sz0, zA.t _ _ upd_same, ((e4.same y1).same s5).ts zA⟩
          · rw [put_ne _ _ _ e]
            exact ((y3 k (by omega)).same s5).ts zA
        · rintro X3 ⟨y1, g', y2, y3⟩
          rw [refs_len] at y2 y3
          exact fin X3 D _ g' (t2.trans y1) ⟨y2, y3⟩ C2
      · rw [decide_eq_false (show ¬ V.int d2 = V.int 0 from fun e => c (V.int.inj e))]
        refine iteF ?_
        exact fin X2 al A g t2 L C
end
end K40
namespace K40
open PySem PyProof.Rows L2
theorem twelfth {z : Int} (h0 : 0 < z) (h1 : z < 12) : mkRat z 12 < 1 := by
  have h : z = 1 ∨ z = 2 ∨ z = 3 ∨ z = 4 ∨ z = 5 ∨ z = 6 ∨ z = 7 ∨ z = 8 ∨ z = 9 ∨ z = 10 ∨ z = 11 := by omega
  rcases h with rfl | rfl | rfl | rfl | rfl | rfl | rfl | rfl | rfl | rfl | rfl <;> decide +kernel
theorem part_is (s : Rat) (z : Int) : mkRat (s.num * z) (s.den * 12) = s * mkRat z 12 := by
  conv => rhs; rw [← Rat.mkRat_self s]
  rw [Rat.mkRat_mul_mkRat]
theorem num_pos {s : Rat} (h : 0 < s) : 0 < s.num := by
  have h1 := (Rat.lt_iff 0 s).mp h
  simpa using h1
theorem part_lt {s : Rat} {z : Int} (hs : 0 < s) (h0 : 0 < z) (h1 : z < 12) : mkRat (s.num * z) (s.den * 12) < s := by
  rw [part_is]
  have h := Rat.mul_lt_mul_of_pos_left (twelfth h0 h1) hs
  rw [Rat.mul_one] at h
  exact h
theorem part_pos {s : Rat} {z : Int} (hs : 0 < s) (h0 : 0 < z) : 0 < mkRat (s.num * z) (s.den * 12) := mkRat_pos (Int.mul_pos (num_pos hs) h0) (Nat.mul_pos s.den_pos (by decide))
theorem part_bd {s : Rat} {z : Int} (hb : Bd 50 s) (h0 : 0 < z) (h1 : z < 12) : Bd 100 (mkRat (s.num * z) (s.den * 12)) := by
  refine bd_mk (Nat.mul_pos s.den_pos (by decide)) ?_ ?_
  · rw [Int.natAbs_mul]
    exact mul_lt_two (n := 50) (m := 50) hb.1 (by omega)
  · exact mul_lt_two (n := 50) (m := 50) hb.2 (by decide)
theorem walk_range2 {n : Nat} : Walk (Itr 2 n) n (fun _ => True) (fun i H x H' => H' = H ∧ x = V.int ((2 + i : Nat) : Int)) :=
  walk_range.mono (fun _ _ => trivial) fun i H x H' _ _ y => ⟨y.1, by
    rw [y.2]
    show V.int (2 + (i : Int)) = V.int ((2 + i : Nat) : Int)
    exact congrArg V.int (by omega)⟩
section
variable {P : Program} {w : World} {K : PySem.W.Frag} {mg : Str → Option Value} {base : Heap}
def spLaw (K : PySem.W.Frag) : Sp := fun vs H Q _ => ∃ (a : Addr) (ns : List Int), vs = [.ref a] ∧ SqL K H a (ns.map V.int) ∧ ns.length ≤ 63 ∧ ∀ H', Q (.bl true) H'
theorem scLaw : FnScope ["_law_script", "_law_rooms", "_law_asks", "_law_half", "_law_ring", "_law_k", "_law_state", "_law_sending", "_law_even", "_law_name", "_law_one", "_law_other", "_law_size", "_law_share"] ["_law_script"] (defScope (top 73)) := ⟨rfl, rfl, rfl, by decide +kernel, rfl, by decide +kernel, by decide +kernel⟩
theorem ok_law {f : Addr} {fd : FuncData} (T : Top K mg) (F : FnP K "law" (top 73) f fd) : FnOk P w K mg base CX0 9 f fd ["_law_script"] (spLaw K) := by
  have D1 : Ok P w K mg base 3 "_law_chain" ["_law_script"] (spChain K) := d_chain T
  have D2 : Ok P w K mg base 1 "_law_begun" ["_law_script", "_law_k"] (spBegun K) := d_begun T
  have D3 : Ok P w K mg base 1 "_law_take" ["_law_state", "_law_many"] spTake := d_take T
  have D4 : Ok P w K mg base 1 "_law_low" ["_law_top", "_law_bottom"] (spLow K) := d_llow T
  have D5 : Ok P w K mg base 8 "_law_right" ["_law_ring", "_law_half", "_law_sending"] (spRight K) := d_right T
  refine F.ok scLaw (fun vs H Q E h => ?_) (fun cdv A outer s H vs Q E hr h => ?_)
  · obtain ⟨_, _, rfl, _⟩ := h
    rfl
  · obtain ⟨a, ns, rfl, hS, hlen, kq⟩ := h
    refine ⟨_, PSs.nox (pss_cons (ps_asg (pe_def D1 (hr.mono (by decide)) (by rfl) (pa_cons (pv 0) pa_nil)) (pg_tup (by rfl) (pgs_cons (pg_name (i := 1) scLaw.nd rfl (.inl rfl)) (pgs_cons (pg_name (i := 2) scLaw.nd rfl (.inl rfl)) (pgs_cons (pg_name (i := 3) scLaw.nd rfl (.inl rfl)) pgs_nil)))))
      (pss_cons (ps_set (i := 4) scLaw.nd rfl (.inl rfl) (pe_tup (pa_cons (pv 1) (pa_cons (pv 2) pa_nil))))
      (pss_cons (ps_for PassesOwn.never rfl (pi_range2 (by rfl) T.range (pa_cons pe_int (pa_cons (pe_callB (call_max2 rfl) (by rfl) T.max (by decide +kernel) (pa_cons pe_int (pa_cons (pe_callB (call_min2 rfl) (by rfl) T.min (by decide +kernel) (pa_cons (pe_callB call_len_seq (by rfl) T.len PySem.boot_len (pa_cons (pv 0) pa_nil)) (pa_cons pe_int pa_nil))) pa_nil))) pa_nil))) (pg_name (i := 5) scLaw.nd rfl (.inl rfl))
        (pss_cons (ps_set (i := 6) scLaw.nd rfl (.inl rfl) (pe_def D2 (hr.mono (by decide)) (by rfl) (pa_cons (pv 0) (pa_cons (pv 5) pa_nil))))
        (pss_cons (ps_set (i := 7) scLaw.nd rfl (.inl rfl) (pe_lst pa_nil))
        (pss_cons (ps_set (i := 8) scLaw.nd rfl (.inl rfl) (pe_cmpR op_eq (pe_def D3 (hr.mono (by decide)) (by rfl) (pa_cons (pv 6) (pa_cons pe_int pa_nil))) pe_int (nomark _)))
        (pss_cons (ps_for PassesOwn.never rfl (pi_list (pv 2)) (pg_tup (by rfl) (pgs_cons (pg_name (i := 9) scLaw.nd rfl (.inl rfl)) (pgs_cons (pg_name (i := 10) scLaw.nd rfl (.inl rfl)) (pgs_cons (pg_name (i := 11) scLaw.nd rfl (.inl rfl)) (pgs_cons (pg_name (i := 12) scLaw.nd rfl (.inl rfl)) pgs_nil)))))
          (pss_cons (ps_set (i := 13) scLaw.nd rfl (.inl rfl) (pe_ix ix_list (pe_lst (pa_cons (pe_op op_add pe_int (pe_def D3 (hr.mono (by decide)) (by rfl) (pa_cons (pv 6) (pa_cons pe_int pa_nil)))) (pa_cons pe_int pa_nil))) (pe_callTy call_int1 (by rfl) T.int (by decide +kernel) (pa_cons (pv 8) pa_nil)) (fun _ _ => rfl)))
          (pss_one (ps_expr (pe_bm PySem.F.plainAttrs_list PySem.F.slot_list_append PySem.F.type_list_append mt_append (pv 7) (pa_cons (pe_def D4 (hr.mono (by decide)) (by rfl) (pa_cons (pe_op op_mul (pe_ix ix_tup (pv 12) pe_int (fun _ _ => rfl)) (pv 13)) (pa_cons (pe_op op_mul (pe_ix ix_tup (pv 12) pe_int (fun _ _ => rfl)) pe_int) pa_nil))) pa_nil))))))
        (pss_one (ps_if (pt_not (pt_val (pe_def D5 hr (by rfl) (pa_cons (pv 4) (pa_cons (pv 3) (pa_cons (pv 7) pa_nil)))))) (pss_one (ps_ret pe_bl)) pss_nil)))))))
      (pss_one (ps_ret pe_bl))))), ?_⟩
    refine ⟨_, rfl, a, ns, rfl, hS, fun H1 t rm al xs g h n m A s1 ht hrm hxs L C => ?_⟩
    refine ⟨t, _, rfl, SqT.of ht, rfl, _, _, rfl, _, _, rfl, _, _, rfl, rfl, ?_⟩
    -- ring = (rooms, asks)
    refine ⟨_, rfl, _, rfl, (by show 2 ≤ sizeLine; decide), fun r hr2 => ?_⟩
    have s2 := same_new (o := .tup [.ref rm, .ref al]) hr2
    have R : RingAt K (upd H1 r (.tup [.ref rm, .ref al])) h n m r A := ⟨rm, al, g, xs, upd_same, s2 _ _ hrm, hxs, L.same s2⟩
    have L2 := L.same s2
    have s12 := s1.trans s2
    generalize upd H1 r (.tup [.ref rm, .ref al]) = H2 at s2 R L2 s12 ⊢
    refine ⟨_, rfl, a, _, rfl, .inl (s12.seq hS), _, _, rfl, _, _, rfl, ?_⟩
    rw [List.length_map]
    obtain ⟨top_, htop, ht1, ht2⟩ : ∃ top_ : Int, (if (if (4 : Int) < (ns.length : Int) then (4 : Int) else (ns.length : Int)) > 3 then (if (4 : Int) < (ns.length : Int) then (4 : Int) else (ns.length : Int)) else 3) = top_ ∧ 3 ≤ top_ ∧ top_ ≤ 4 := by
      refine ⟨_, rfl, ?_, ?_⟩
      · split <;> split <;> omega
      · split <;> split <;> omega
    rw [htop]
    refine ⟨2, top_, rfl, ⟨by decide, by decide, by omega, by omega⟩, ?_⟩
    have hN : (top_ - 2).toNat ≤ 2 := by omega
    generalize (top_ - 2).toNat = N at hN ⊢
    have hm5 := C.m5
    refine for_it (walk_range2 (n := N)) (fun i σ H' => Same H2 H' ∧ ∃ v5 v6 v7 v8 v9 v10 v11 v12 v13 : Option V, σ = [some (.ref a), some (.ref rm), some (.ref al), some (.int (h : Int)), some (.ref r), v5, v6, v7, v8, v9, v10, v11, v12, v13])
      ⟨Same.refl H2, none, none, none, none, none, none, none, none, none, rfl⟩ (fun _ _ _ _ _ => trivial) ?_ ?_
    · rintro i v σ H3 H4 hi ⟨s3, v5, v6, v7, v8, v9, v10, v11, v12, v13, rfl⟩ ⟨rfl, rfl⟩
      have s03 := s12.trans s3
      refine ⟨_, rfl, _, rfl, a, ns, 2 + i, rfl, s03.seq hS, by omega, fun H5 st s5 nst hst => ?_⟩
      refine ⟨(by show 0 ≤ sizeLine; decide), fun sd hsd => ?_⟩
      have s6 := same_new (o := .lst []) hsd
      have nsd : H4 sd = none := s5.free hsd
      have stsd : st ≠ sd := by
        obtain ⟨zs, hz⟩ := hst.lst
        exact ne_of_none hz hsd
      refine ⟨_, rfl, st, 4, rfl, hst.same s6, by decide, small_abs (by decide) (by decide), fun H7 d b7 hst7 _ _ => ?_⟩
      have s7 : Same H4 H7 := But.same (s5.trans s6) b7 nst
      have hsd7 : H7 sd = some (.lst []) := b7 _ _ (Ne.symm stsd) upd_same
      refine ⟨rfl, ?_⟩
      -- for name, one, other, size in asks
      refine ⟨_, rfl, al, rfl, ⟨_, SqL.of (s7 _ _ (s3 _ _ L2.lst))⟩, for_it (walk_list (K := K) (a := al) (xs := refs m g)) (fun j σ H' => Same H4 H' ∧ StateAt H' st ∧ (∃ q : Nat → Rat, SendAt K H' j sd q ∧ ∀ k, k < j → 0 < q k ∧ q k < (A k).s ∧ Bd 100 (q k)) ∧
          ∃ v9 v10 v11 v12 v13 : Option V, σ = [some (.ref a), some (.ref rm), some (.ref al), some (.int (h : Int)), some (.ref r), some (.int ((2 + i : Nat) : Int)), some (.ref st), some (.ref sd), some (.bl (decide (V.int d = V.int 0))), v9, v10, v11, v12, v13])
        ⟨s7, hst7, ⟨fun _ => 0, ⟨fun _ => 0, hsd7, fun k hk => absurd hk (Nat.not_lt_zero k)⟩, fun k hk => absurd hk (Nat.not_lt_zero k)⟩, _, _, _, _, _, rfl⟩ ?_ ?_ ?_⟩
      · rintro j σ H' _ ⟨s8, _⟩
        exact SqL.of (s8 _ _ (s3 _ _ L2.lst))
      · rintro j v σ H8 H9 hj ⟨s8, hst8, ⟨q, hq, hqb⟩, v9, v10, v11, v12, v13, rfl⟩ ⟨rfl, hv⟩
        obtain ⟨hj', rfl⟩ := refs_of hv
        have s38 := s3.trans s8
        obtain ⟨nm, sz, e1, e2⟩ := L2.ask j hj'
        refine ⟨g j, _, rfl, SqT.of (s38 _ _ e1), rfl, _, _, rfl, _, _, rfl, _, _, rfl, _, _, rfl, rfl, ?_⟩
        -- share
        refine ⟨_, rfl, st, 11, rfl, hst8, by decide, small_abs (by decide) (by decide), fun X1 d2 b1 hst1 d20 d21 => ?_⟩
        refine ⟨1, d2, rfl, rfl, (by show 2 ≤ sizeLine; decide), fun l hl => ?_⟩
        have x2 := same_new (o := .lst [.int (1 + d2), .int 6]) hl
        obtain ⟨fq, hq1, hq2⟩ := hq
        have z1 : TupS H9 X1 := by
          obtain ⟨zs, hz⟩ := hst8.lst
          exact TupS.but hz b1
        have hq11 := b1 _ _ (Ne.symm stsd) hq1
        have S1 : SendAt K X1 j sd q := ⟨fq, hq11, fun k hk => (hq2 k hk).ts z1⟩
        have w1 : Same H4 X1 := But.same s8 b1 nst
        refine ⟨_, rfl, .inr ⟨_, rfl, ?_⟩⟩
        obtain ⟨z, hz, z0, z12⟩ : ∃ z : Int, atI [V.int (1 + d2), .int 6] (if decide (V.int d = V.int 0) = true then 1 else 0) = some (.int z) ∧ 0 < z ∧ z < 12 := by
          cases decide (V.int d = V.int 0)
          · exact ⟨1 + d2, rfl, by omega, by omega⟩
          · exact ⟨6, rfl, by decide, by decide⟩
        refine ⟨l, _, _, .int z, rfl, rfl, lst_new, hz, ?_⟩
        have w2 := w1.trans x2
        have S2 := S1.same x2
        have hst2 := hst1.same x2
        have hsz : FR K (upd X1 l (.lst [.int (1 + d2), .int 6])) sz (A j).s := ((e2.same s3).same w2)
        generalize upd X1 l (.lst [.int (1 + d2), .int 6]) = X2 at x2 w2 S2 hst2 hsz ⊢
        obtain ⟨fq2, hq21, hq22⟩ := id S2
        -- sending.append(low(size[0] * share, size[1] * 12))
        refine ⟨_, rfl, .inl ⟨rfl, _, SqL.of hq21⟩, ?_⟩
        refine ⟨_, rfl, sz, _, 0, _, rfl, rfl, hsz, rfl, _, rfl, _, _, rfl, rfl, .inr ⟨by omega, by omega⟩, ?_⟩
        refine ⟨_, rfl, sz, _, 1, _, rfl, rfl, hsz, rfl, _, _, rfl, rfl, .inr ⟨by decide, by decide⟩, ?_⟩
        have hsb := C.bd j hj'
        refine ⟨(A j).s.num * z, (A j).s.den * 12, (show [V.int ((A j).s.num * z), V.int (((A j).s.den : Int) * 12)] = [V.int ((A j).s.num * z), V.int (((A j).s.den * 12 : Nat) : Int)] from congrArg (fun y => [V.int ((A j).s.num * z), V.int y]) (by omega)), Nat.mul_pos (A j).s.den_pos (by decide), ?_, fun X3 y s9 hy => ?_⟩
        · exact Nat.lt_of_lt_of_le (mul_lt_two (n := 50) (m := 50) hsb.2 (by decide)) (Nat.pow_le_pow_right (by decide) (by decide))
        have hq31 := s9 _ _ hq21
        refine ⟨sd, refs j fq2, _, rfl, rfl, hq31, ?_, ?_⟩
        · rw [refs_len]
          exact small5 (by omega)
        rw [refs_put]
        have bA : But sd _ (upd X3 sd (.lst (refs (j + 1) (put fq2 j y)))) := But.upd
        have zA := TupS.but hq31 bA
        refine ⟨But.same (w2.trans s9) bA nsd, (hst2.same s9).but bA stsd, ⟨fun k => if k = j then mkRat ((A j).s.num * z) ((A j).s.den * 12) else q k, ⟨put fq2 j y, upd_same, fun k hk => ?_⟩, fun k hk => ?_⟩, _, _, _, _, _, rfl⟩
        · show FR K _ (put fq2 j y k) (if k = j then mkRat ((A j).s.num * z) ((A j).s.den * 12) else q k)
          by_cases e : k = j
          · subst e
            rw [put_same, if_pos rfl]
            exact hy.ts zA
          · rw [put_ne _ _ _ e, if_neg e]
            exact ((hq22 k (by omega)).same s9).ts zA
        · show 0 < (if k = j then mkRat ((A j).s.num * z) ((A j).s.den * 12) else q k) ∧ (if k = j then mkRat ((A j).s.num * z) ((A j).s.den * 12) else q k) < (A k).s ∧ Bd 100 (if k = j then mkRat ((A j).s.num * z) ((A j).s.den * 12) else q k)
          by_cases e : k = j
          · subst e
            rw [if_pos rfl]
            exact ⟨part_pos (C.pos k hj') z0, part_lt (C.pos k hj') z0 z12, part_bd hsb z0 z12⟩
          · rw [if_neg e]
            exact hqb k (by omega)
      · rintro σ H8 ⟨s8, hst8, ⟨q, hq, hqb⟩, v9, v10, v11, v12, v13, rfl⟩
        rw [refs_len] at hq hqb
        have s38 := s3.trans s8
        refine ⟨_, rfl, _, rfl, _, rfl, r, sd, h, n, m, A, q, rfl, ⟨C, ⟨fun k hk => (hqb k hk).1, fun k hk => (hqb k hk).2.1, fun k hk => (hqb k hk).2.2⟩, R.same s38, hq⟩, fun H9 s9 => ?_⟩
        refine ⟨true, rfl, iteF ?_⟩
        exact ⟨s38.trans s9, _, _, _, _, _, _, _, _, _, rfl⟩
    · rintro σ H3 ⟨s3, _⟩
      exact kq H3
end
end K40
namespace K40H
open PySem PySem.Spec PyProof.Rows L2 K40
def d5 : He.DefD := ⟨("common", none), "common", "common", defArgs (K40.top 5), defBody (K40.top 5), defScope (K40.top 5), [], []⟩
def d9 : He.DefD := ⟨("lowered", none), "lowered", "lowered", defArgs (K40.top 9), defBody (K40.top 9), defScope (K40.top 9), [], []⟩
def d10 : He.DefD := ⟨("plus", none), "plus", "plus", defArgs (K40.top 10), defBody (K40.top 10), defScope (K40.top 10), [], []⟩
def d11 : He.DefD := ⟨("minus", none), "minus", "minus", defArgs (K40.top 11), defBody (K40.top 11), defScope (K40.top 11), [], []⟩
def d12 : He.DefD := ⟨("times", none), "times", "times", defArgs (K40.top 12), defBody (K40.top 12), defScope (K40.top 12), [], []⟩
def d13 : He.DefD := ⟨("under", none), "under", "under", defArgs (K40.top 13), defBody (K40.top 13), defScope (K40.top 13), [], []⟩
def d14 : He.DefD := ⟨("greater", none), "greater", "greater", defArgs (K40.top 14), defBody (K40.top 14), defScope (K40.top 14), [], []⟩
def d17 : He.DefD := ⟨("do_cross", none), "do_cross", "do_cross", defArgs (K40.top 17), defBody (K40.top 17), defScope (K40.top 17), [], []⟩
def d18 : He.DefD := ⟨("is_parted", none), "is_parted", "is_parted", defArgs (K40.top 18), defBody (K40.top 18), defScope (K40.top 18), [], []⟩
def d19 : He.DefD := ⟨("parted_in", none), "parted_in", "parted_in", defArgs (K40.top 19), defBody (K40.top 19), defScope (K40.top 19), [], []⟩
def d20 : He.DefD := ⟨("all_cross", none), "all_cross", "all_cross", defArgs (K40.top 20), defBody (K40.top 20), defScope (K40.top 20), [], []⟩
def d24 : He.DefD := ⟨("other_way", none), "other_way", "other_way", defArgs (K40.top 24), defBody (K40.top 24), defScope (K40.top 24), [], []⟩
def d26 : He.DefD := ⟨("is_over", none), "is_over", "is_over", defArgs (K40.top 26), defBody (K40.top 26), defScope (K40.top 26), [], []⟩
def d28 : He.DefD := ⟨("loads_of", none), "loads_of", "loads_of", defArgs (K40.top 28), defBody (K40.top 28), defScope (K40.top 28), [], []⟩
def d30 : He.DefD := ⟨("are_ways", none), "are_ways", "are_ways", defArgs (K40.top 30), defBody (K40.top 30), defScope (K40.top 30), [], []⟩
def d31 : He.DefD := ⟨("sent_by", none), "sent_by", "sent_by", defArgs (K40.top 31), defBody (K40.top 31), defScope (K40.top 31), [], []⟩
def d36 : He.DefD := ⟨("gone_by", none), "gone_by", "gone_by", defArgs (K40.top 36), defBody (K40.top 36), defScope (K40.top 36), [], []⟩
def d42 : He.DefD := ⟨("slid_by", none), "slid_by", "slid_by", defArgs (K40.top 42), defBody (K40.top 42), defScope (K40.top 42), [], []⟩
def d44 : He.DefD := ⟨("next_slide", none), "next_slide", "next_slide", defArgs (K40.top 44), defBody (K40.top 44), defScope (K40.top 44), [], []⟩
def d45 : He.DefD := ⟨("slides_for", none), "slides_for", "slides_for", defArgs (K40.top 45), defBody (K40.top 45), defScope (K40.top 45), [], []⟩
def d47 : He.DefD := ⟨("rising_way", none), "rising_way", "rising_way", defArgs (K40.top 47), defBody (K40.top 47), defScope (K40.top 47), [], []⟩
def d48 : He.DefD := ⟨("gain_by", none), "gain_by", "gain_by", defArgs (K40.top 48), defBody (K40.top 48), defScope (K40.top 48), [], []⟩
def d49 : He.DefD := ⟨("in_order", none), "in_order", "in_order", defArgs (K40.top 49), defBody (K40.top 49), defScope (K40.top 49), [], []⟩
def d50 : He.DefD := ⟨("half_of_greatest", none), "half_of_greatest", "half_of_greatest", defArgs (K40.top 50), defBody (K40.top 50), defScope (K40.top 50), [], []⟩
def d51 : He.DefD := ⟨("goes_whole", none), "goes_whole", "goes_whole", defArgs (K40.top 51), defBody (K40.top 51), defScope (K40.top 51), [], []⟩
def d52 : He.DefD := ⟨("are_rounded", none), "are_rounded", "are_rounded", defArgs (K40.top 52), defBody (K40.top 52), defScope (K40.top 52), [], []⟩
def d53 : He.DefD := ⟨("behind_or_none", none), "behind_or_none", "behind_or_none", defArgs (K40.top 53), defBody (K40.top 53), defScope (K40.top 53), [], []⟩
def d54 : He.DefD := ⟨("lets_rounding", none), "lets_rounding", "lets_rounding", defArgs (K40.top 54), defBody (K40.top 54), defScope (K40.top 54), [], []⟩
def d55 : He.DefD := ⟨("whole_ways", none), "whole_ways", "whole_ways", defArgs (K40.top 55), defBody (K40.top 55), defScope (K40.top 55), [], []⟩
def d56 : He.DefD := ⟨("rounding_of", none), "rounding_of", "rounding_of", defArgs (K40.top 56), defBody (K40.top 56), defScope (K40.top 56), [], []⟩
def d58 : He.DefD := ⟨("gains_of", none), "gains_of", "gains_of", defArgs (K40.top 58), defBody (K40.top 58), defScope (K40.top 58), [], []⟩
def d60 : He.DefD := ⟨("_law_begun", none), "_law_begun", "_law_begun", defArgs (K40.top 60), defBody (K40.top 60), defScope (K40.top 60), [], []⟩
def d61 : He.DefD := ⟨("_law_take", none), "_law_take", "_law_take", defArgs (K40.top 61), defBody (K40.top 61), defScope (K40.top 61), [], []⟩
def d62 : He.DefD := ⟨("_law_low", none), "_law_low", "_law_low", defArgs (K40.top 62), defBody (K40.top 62), defScope (K40.top 62), [], []⟩
def d63 : He.DefD := ⟨("_law_amount", none), "_law_amount", "_law_amount", defArgs (K40.top 63), defBody (K40.top 63), defScope (K40.top 63), [], []⟩
def d64 : He.DefD := ⟨("_law_plus", none), "_law_plus", "_law_plus", defArgs (K40.top 64), defBody (K40.top 64), defScope (K40.top 64), [], []⟩
def d65 : He.DefD := ⟨("_law_minus", none), "_law_minus", "_law_minus", defArgs (K40.top 65), defBody (K40.top 65), defScope (K40.top 65), [], []⟩
def d66 : He.DefD := ⟨("_law_under", none), "_law_under", "_law_under", defArgs (K40.top 66), defBody (K40.top 66), defScope (K40.top 66), [], []⟩
def d67 : He.DefD := ⟨("_law_chain", none), "_law_chain", "_law_chain", defArgs (K40.top 67), defBody (K40.top 67), defScope (K40.top 67), [], []⟩
def d68 : He.DefD := ⟨("_law_sums", none), "_law_sums", "_law_sums", defArgs (K40.top 68), defBody (K40.top 68), defScope (K40.top 68), [], []⟩
def d69 : He.DefD := ⟨("_law_bounded", none), "_law_bounded", "_law_bounded", defArgs (K40.top 69), defBody (K40.top 69), defScope (K40.top 69), [], []⟩
def d70 : He.DefD := ⟨("_law_gains_right", none), "_law_gains_right", "_law_gains_right", defArgs (K40.top 70), defBody (K40.top 70), defScope (K40.top 70), [], []⟩
def d71 : He.DefD := ⟨("_law_all_ways", none), "_law_all_ways", "_law_all_ways", defArgs (K40.top 71), defBody (K40.top 71), defScope (K40.top 71), [], []⟩
def d72 : He.DefD := ⟨("_law_right", none), "_law_right", "_law_right", defArgs (K40.top 72), defBody (K40.top 72), defScope (K40.top 72), [], []⟩
def d73 : He.DefD := ⟨("law", none), "law", "law", defArgs (K40.top 73), defBody (K40.top 73), defScope (K40.top 73), [], []⟩
def fn1 : List He.DefD := [d5, d9, d10, d11, d12, d13, d14, d17, d18, d19, d20, d24, d26, d28, d30, d31, d36, d42, d44, d45, d47, d48, d49, d50, d51]
def fn2 : List He.DefD := [d52, d53, d54, d55, d56, d58, d60, d61, d62, d63, d64, d65, d66, d67, d68, d69, d70, d71, d72, d73]
def fn : List He.DefD := fn1 ++ fn2
def fa1 : List He.Fa := [.glo "common", .glo "lowered", .glo "plus", .glo "minus", .glo "times", .glo "under", .glo "greater", .glo "do_cross", .glo "is_parted", .glo "parted_in", .glo "all_cross", .glo "other_way", .glo "is_over", .glo "loads_of", .glo "are_ways", .glo "sent_by", .glo "gone_by", .glo "slid_by", .glo "next_slide", .glo "slides_for", .glo "rising_way", .glo "gain_by", .glo "in_order", .glo "half_of_greatest", .glo "goes_whole"]
def fa2 : List He.Fa := [.glo "are_rounded", .glo "behind_or_none", .glo "lets_rounding", .glo "whole_ways", .glo "rounding_of", .glo "gains_of", .glo "_law_begun", .glo "_law_take", .glo "_law_low", .glo "_law_amount", .glo "_law_plus", .glo "_law_minus", .glo "_law_under", .glo "_law_chain", .glo "_law_sums", .glo "_law_bounded", .glo "_law_gains_right", .glo "_law_all_ways", .glo "_law_right", .glo "law"]
def fa3 : List He.Fa := [.glo "NOUGHT", .str "ON" "on", .str "BACK" "back", .free "abs", .free "len", .free "range", .free "min", .free "max", .free "enumerate", .free "zip", .free "isinstance", .free "list", .free "tuple", .free "str", .free "int", .free "all", .free "sorted"]
def fa : List He.Fa := fa1 ++ (fa2 ++ fa3)
abbrev R : PySem.W.OpenRow := PySem.W.OpenLaw.row PySem.Challenge.rw_ringloads_k40_whole_chains_rounded
def obsM (K : PySem.W.Frag) : He.AlD × Bool := (He.obsD fa fn K, He.tupB K "NOUGHT" [.int 0, .int 1])
def obsMG (g : Addr → Option Obj) : He.AlD × Bool := obsM (He.frG g (He.asD g 4))
def hk : PySem.W.Hook where
  α := He.AlD × Bool
  obs := fun s => obsMG s.heap.get?
  val := fun _ => (He.valD fn, true)
  says := fun _ h => ∃ K : PySem.W.Frag, K.In h ∧ obsM K = (He.valD fn, true)
  of := fun _ _ e => ⟨_, He.frG_in, e⟩
  keeps := fun _ _ _ ⟨K, hK, c⟩ k => ⟨K, PySem.W.Frag.In.keeps hK k, c⟩
def ob (s : PySem.W.SharedT) : He.AlD × Bool := obsMG (HandSHeadRun.getT s)
theorem ob_eq (s : PySem.W.SharedT) : ob s = hk.obs s.abs := by
  have e : HandSHeadRun.getT s = s.abs.heap.get? := funext (HandSHeadRun.getT_eq s)
  unfold ob
  rw [e]
  rfl
def loose1 : List Str := ["LoadError", "NoSlide", "is_whole", "common", "is_ratio", "NOUGHT", "lowered", "plus", "minus", "times", "under", "greater", "lesser", "do_cross", "is_parted", "parted_in", "all_cross", "ON", "BACK", "other_way", "ties_of", "is_over", "loads_of", "are_ways", "sent_by", "is_number", "BOTH", "gone_by", "are_apart", "is_way", "is_slide", "moved"]
def loose2 : List Str := ["slid", "slid_by", "ways_apart", "next_slide", "slides_for", "rising_way", "gain_by", "in_order", "half_of_greatest", "goes_whole", "are_rounded", "behind_or_none", "lets_rounding", "whole_ways", "rounding_of", "gains_of", "_law_begun", "_law_take", "_law_low", "_law_amount", "_law_plus", "_law_minus", "_law_under", "_law_chain", "_law_sums", "_law_bounded", "_law_gains_right", "_law_all_ways", "_law_right"]
def loose : List Str := loose1 ++ loose2
theorem run (w : World) : HandSHeadRun.RunEq R (PySem.W.view R.prog [73]) hk ob 4000 loose w := by
  intro os
  kernel_rfl
theorem facts {K : PySem.W.Frag} {h : Heap} {mg : Str → Option Value} (X : K.In h) (G : h.Ns mainGlobals mg) (c : obsM K = (He.valD fn, true)) : K40.Top K mg := by
  have cd : He.SaysD fa fn K := congrArg (fun z : He.AlD × Bool => z.1) c
  have ct : He.tupB K "NOUGHT" [.int 0, .int 1] = true := congrArg (fun z : He.AlD × Bool => z.2) c
  have at_ : ∀ (i : Nat) (x : Str) (j : Nat), fn[i]? = some ⟨(x, none), x, x, defArgs (K40.top j), defBody (K40.top j), defScope (K40.top j), [], []⟩ → fa[i]? = some (.glo x) → K40.At K mg x j := fun i x j h1 h2 => by
    obtain ⟨fd, F⟩ := cd.def_ i h1
    exact ⟨_, fd, F, He.glo_ok X G (cd.fact i h2)⟩
  exact {
    common := at_ 0 _ 5 rfl rfl
    lowered := at_ 1 _ 9 rfl rfl
    plus := at_ 2 _ 10 rfl rfl
    minus := at_ 3 _ 11 rfl rfl
    times := at_ 4 _ 12 rfl rfl
    under := at_ 5 _ 13 rfl rfl
    greater := at_ 6 _ 14 rfl rfl
    do_cross := at_ 7 _ 17 rfl rfl
    is_parted := at_ 8 _ 18 rfl rfl
    parted_in := at_ 9 _ 19 rfl rfl
    all_cross := at_ 10 _ 20 rfl rfl
    other_way := at_ 11 _ 24 rfl rfl
    is_over := at_ 12 _ 26 rfl rfl
    loads_of := at_ 13 _ 28 rfl rfl
    are_ways := at_ 14 _ 30 rfl rfl
    sent_by := at_ 15 _ 31 rfl rfl
    gone_by := at_ 16 _ 36 rfl rfl
    slid_by := at_ 17 _ 42 rfl rfl
    next_slide := at_ 18 _ 44 rfl rfl
    slides_for := at_ 19 _ 45 rfl rfl
    rising_way := at_ 20 _ 47 rfl rfl
    gain_by := at_ 21 _ 48 rfl rfl
    in_order := at_ 22 _ 49 rfl rfl
    half := at_ 23 _ 50 rfl rfl
    goes_whole := at_ 24 _ 51 rfl rfl
    are_rounded := at_ 25 _ 52 rfl rfl
    behind := at_ 26 _ 53 rfl rfl
    lets := at_ 27 _ 54 rfl rfl
    whole_ways := at_ 28 _ 55 rfl rfl
    rounding_of := at_ 29 _ 56 rfl rfl
    gains_of := at_ 30 _ 58 rfl rfl
    l_begun := at_ 31 _ 60 rfl rfl
    l_take := at_ 32 _ 61 rfl rfl
    l_low := at_ 33 _ 62 rfl rfl
    l_amount := at_ 34 _ 63 rfl rfl
    l_plus := at_ 35 _ 64 rfl rfl
    l_minus := at_ 36 _ 65 rfl rfl
    l_under := at_ 37 _ 66 rfl rfl
    l_chain := at_ 38 _ 67 rfl rfl
    l_sums := at_ 39 _ 68 rfl rfl
    l_bounded := at_ 40 _ 69 rfl rfl
    l_gains := at_ 41 _ 70 rfl rfl
    l_all := at_ 42 _ 71 rfl rfl
    l_right := at_ 43 _ 72 rfl rfl
    law := at_ 44 _ 73 rfl rfl
    nought := ⟨_, He.glo_ok X G (cd.fact 45 (f := .glo "NOUGHT") rfl), fun H => He.tupB_ok ct H⟩
    on := He.str_ok X G (cd.fact 46 (f := .str "ON" "on") rfl)
    back := He.str_ok X G (cd.fact 47 (f := .str "BACK" "back") rfl)
    abs := He.free_ok X G (cd.fact 48 (f := .free "abs") rfl)
    len := He.free_ok X G (cd.fact 49 (f := .free "len") rfl)
    range := He.free_ok X G (cd.fact 50 (f := .free "range") rfl)
    min := He.free_ok X G (cd.fact 51 (f := .free "min") rfl)
    max := He.free_ok X G (cd.fact 52 (f := .free "max") rfl)
    enumerate := He.free_ok X G (cd.fact 53 (f := .free "enumerate") rfl)
    zip := He.free_ok X G (cd.fact 54 (f := .free "zip") rfl)
    isinstance := He.free_ok X G (cd.fact 55 (f := .free "isinstance") rfl)
    list := He.free_ok X G (cd.fact 56 (f := .free "list") rfl)
    tuple := He.free_ok X G (cd.fact 57 (f := .free "tuple") rfl)
    str := He.free_ok X G (cd.fact 58 (f := .free "str") rfl)
    int := He.free_ok X G (cd.fact 59 (f := .free "int") rfl)
    all := He.free_ok X G (cd.fact 60 (f := .free "all") rfl)
    sorted := He.free_ok X G (cd.fact 61 (f := .free "sorted") rfl)
  }
end K40H
open PySem PySem.W PySem.Calls PyProof.Rows
set_option maxHeartbeats 0 in
theorem PySem.Challenge.cw_ringloads_k40_whole_chains_rounded_holds : PySem.Challenge.rw_ringloads_k40_whole_chains_rounded.Holds := by
  w_on; o_law
  refine HandSHeadRun.head_any (r := OpenLaw.row PySem.Challenge.rw_ringloads_k40_whole_chains_rounded) (q := view (OpenLaw.row PySem.Challenge.rw_ringloads_k40_whole_chains_rounded).prog [73]) (H := K40H.hk) (ob := K40H.ob) (M := 4000) (loose := K40H.loose) (d := HandSHeadRun.topDef (OpenLaw.row PySem.Challenge.rw_ringloads_k40_whole_chains_rounded).prog 73) (kwd := []) K40H.ob_eq
    (by kernel_rfl) (fun s => by kernel_rfl) K40H.run (by kernel_rfl) (by kernel_rfl) (by kernel_rfl) (by rfl) (by first | assumption | decide +kernel) (by decide +kernel) ⟨rfl, rfl, rfl, rfl, rfl, by decide +kernel⟩ ?hw ?hc
  case hw => w_witness2
  case hc =>
    refine L2.walk_ofE (l := PySem.Challenge.rw_ringloads_k40_whole_chains_rounded) (n := 63) (k := 9) (x := "_law_script") (CX := L2.CX0) rfl (by decide) (by kernel_rfl) ⟨rfl, by decide, by decide⟩ ?F (fun _ _ _ _ z => z)
    intro w mg fa h Y G hmg0
    obtain ⟨K, KX, c⟩ := Y
    have hmg : mg ("law" : PySem.Str) = some (.ref fa) := by
      have e : (HandSHeadRun.topDef (OpenLaw.row PySem.Challenge.rw_ringloads_k40_whole_chains_rounded).prog 73).name = ("law" : PySem.Str) := by kernel_rfl
      rw [← e]
      exact hmg0
    have T : K40.Top K mg := K40H.facts KX G c
    obtain ⟨f, fd, F, g⟩ := T.law
    have e := hmg.symm.trans g
    cases e
    exact ⟨K, fd, K40.spLaw K, KX, fun s v => L2.FunD.bindsA (ps := ["_law_script"]) F (fun _ _ _ _ _ _ us hl => match us, hl with | [_], _ => rfl) s [v] rfl, fun H a ns hl _ hS => ⟨a, ns, rfl, hS, hl, fun _ => rfl⟩, fun base _ _ => K40.ok_law T F⟩
